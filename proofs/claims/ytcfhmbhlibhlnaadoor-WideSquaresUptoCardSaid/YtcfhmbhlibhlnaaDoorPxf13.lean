-- Printed by this session's own pp.py (wip/tool) out of the translation.
import Derived.Test.YtcfhmbhlibhlnaaDoorPx0
import Derived.Test.YtcfhmbhlibhlnaaDoorPxf27
import Derived.Test.YtcfhmbhlibhlnaaDoorPxf47
import Derived.Test.YtcfhmbhlibhlnaaDoorPxf30
import Derived.Test.YtcfhmbhlibhlnaaDoorPxf50
import Derived.Test.YtcfhmbhlibhlnaaDoorPxf29
import Derived.Test.YtcfhmbhlibhlnaaDoorPxf31
import Derived.Test.YtcfhmbhlibhlnaaDoorPxf36
namespace Go.Proofs.YtcfhmbhlibhlnaaDoor.P
open Go.RowKit Go.Proofs.YtcfhmbhlibhlnaaDoorW.PrintWords Go.Proofs.YtcfhmbhlibhlnaaDoorW.PrintLast Go.Proofs.YtcfhmbhlibhlnaaDoorW.PrintMore Go.Proofs.YtcfhmbhlibhlnaaDoor.Mine
attribute [local go_sem] ext71 ext79 eqA61 eqA62
attribute [local go_sem] max2_int min2_int max_two min_two max_three min_three max_four min_four   -- for this text's walks alone
set_option linter.unusedVariables false
set_option linter.unusedSimpArgs false

/-! ### tumblerlaw01_WideSquares: function 13 -/
def tumblerlaw01_WideSquares.f (k : Nat) (a0_0 : Int) (a0_1 : Int) : Option (Bool) := (wide_Root.f k a0_0 a0_1).bind fun bt795 => ((wide_Sign.f a0_0 a0_1).bind fun t799 => (if t799 < 0 then (if bt795.2.2 = 13 then ((tumblerlaw01_alive.f k).bind fun t800 => (some t800)) else (some false)) else ((wide_Mul.f k bt795.1 bt795.2.1 bt795.1 bt795.2.1).bind fun bt801 => ((wide_Of.f 1).bind fun bt805 => ((wide_Add.f bt795.1 bt795.2.1 bt805.1 bt805.2).bind fun bt807 => ((wide_Mul.f k bt807.1 bt807.2.1 bt807.1 bt807.2.1).bind fun bt811 => (if bt795.2.2 = 0 then (if bt801.2.2 = 0 then (if bt807.2.2 = 0 then ((wide_Sign.f bt795.1 bt795.2.1).bind fun t815 => (if t815 ≥ 0 then ((wide_Cmp.f bt801.1 bt801.2.1 a0_0 a0_1).bind fun t816 => (if t816 ≤ 0 then (if bt811.2.2 = 10 then ((tumblerlaw01_alive.f k).bind fun t817 => (some t817)) else ((wide_Cmp.f bt811.1 bt811.2.1 a0_0 a0_1).bind fun t818 => (if t818 > 0 then ((tumblerlaw01_alive.f k).bind fun t819 => (some t819)) else (some false)))) else (some false))) else (some false))) else (some false)) else (some false)) else (some false))))))))
theorem tumblerlaw01_WideSquares.mono : ∀ a0 a1 k, LeO (tumblerlaw01_WideSquares.f k a0 a1) (tumblerlaw01_WideSquares.f (k + 1) a0 a1) := by
 intro a0 a1 k
 unfold tumblerlaw01_WideSquares.f
 repeat' first
  | (with_reducible exact tumblerlaw01_alive.mono _)
  | (with_reducible exact wide_Mul.mono _ _ _ _ _)
  | (with_reducible exact wide_Root.mono _ _ _)
  | (with_reducible exact LeO.refl _)
  | (with_reducible exact LeO.none _)
  | (with_reducible refine LeO.ite ?_ ?_)
  | (with_reducible refine LeO.bind ?_ (fun _ => ?_))
  | exact tumblerlaw01_alive.mono _
  | exact wide_Mul.mono _ _ _ _ _
  | exact wide_Root.mono _ _ _
  | exact LeO.none _
  | refine LeO.ite ?_ ?_
  | refine LeO.bind ?_ (fun _ => ?_)
def tumblerlaw01_WideSquares.T5 : Bool × List (List Nat × List Nat) := (true, [([], []), ([], []), ([0, 1, 1], [0, 1]), ([2], [2]), ([3], [3]), ([3], [3]), ([], []), ([6, 4, 2, 0, 1, 2, 3, 4, 6], [4, 6]), ([5, 7, 0, 1, 2, 3, 4, 5, 6, 7], [5])])
def tumblerlaw01_WideSquares.B5 : List Nat := [0, 0, 3, 7, 15, 15, 0, 95, 255]
theorem tumblerlaw01_WideSquares.tab5 : rtab .any (opsOf Tryd.f13 5) = tumblerlaw01_WideSquares.T5 := by kernel_rfl
theorem tumblerlaw01_WideSquares.bits5 : waitsOk tumblerlaw01_WideSquares.T5.2 tumblerlaw01_WideSquares.B5 = true := by kernel_rfl
set_option maxHeartbeats 8000000 in
set_option maxRecDepth 100000 in
theorem tumblerlaw01_WideSquares.calls (k : Nat) (a0_0 : Int) (a0_1 : Int) (r : Bool) (w : World) (hT : Aside0 (WF w)) (hr_ : Aside0 (r = true)) (h : tumblerlaw01_WideSquares.f k a0_0 a0_1 = some r) :
 Calls Tryd.prog 13 #[.agg #[.int .i64 a0_0, .int .u64 a0_1]] w fun e w' => e = .returned (.bool r) ∧ Below w.heap.size w w' := by
 have hu24 := Tryd.underlying24; have HB := am (Below.refl w.heap.size w); have H : ((wide_Root.f k a0_0 a0_1).bind fun bt795 => ((wide_Sign.f a0_0 a0_1).bind fun t799 => (if t799 < 0 then (if bt795.2.2 = 13 then ((tumblerlaw01_alive.f k).bind fun t800 => (some t800)) else (some false)) else ((wide_Mul.f k bt795.1 bt795.2.1 bt795.1 bt795.2.1).bind fun bt801 => ((wide_Of.f 1).bind fun bt805 => ((wide_Add.f bt795.1 bt795.2.1 bt805.1 bt805.2).bind fun bt807 => ((wide_Mul.f k bt807.1 bt807.2.1 bt807.1 bt807.2.1).bind fun bt811 => (if bt795.2.2 = 0 then (if bt801.2.2 = 0 then (if bt807.2.2 = 0 then ((wide_Sign.f bt795.1 bt795.2.1).bind fun t815 => (if t815 ≥ 0 then ((wide_Cmp.f bt801.1 bt801.2.1 a0_0 a0_1).bind fun t816 => (if t816 ≤ 0 then (if bt811.2.2 = 10 then ((tumblerlaw01_alive.f k).bind fun t817 => (some t817)) else ((wide_Cmp.f bt811.1 bt811.2.1 a0_0 a0_1).bind fun t818 => (if t818 > 0 then ((tumblerlaw01_alive.f k).bind fun t819 => (some t819)) else (some false)))) else (some false))) else (some false))) else (some false)) else (some false)) else (some false))))))))) = some r := h; clear h
 replace H := Option.bind_eq_some_iff.mp H
 obtain ⟨⟨t795, t796, t797⟩, A20, H⟩ := H
 replace H : ((wide_Sign.f a0_0 a0_1).bind fun t799 => (if t799 < 0 then (if t797 = 13 then ((tumblerlaw01_alive.f k).bind fun t800 => (some t800)) else (some false)) else ((wide_Mul.f k t795 t796 t795 t796).bind fun bt801 => ((wide_Of.f 1).bind fun bt805 => ((wide_Add.f t795 t796 bt805.1 bt805.2).bind fun bt807 => ((wide_Mul.f k bt807.1 bt807.2.1 bt807.1 bt807.2.1).bind fun bt811 => (if t797 = 0 then (if bt801.2.2 = 0 then (if bt807.2.2 = 0 then ((wide_Sign.f t795 t796).bind fun t815 => (if t815 ≥ 0 then ((wide_Cmp.f bt801.1 bt801.2.1 a0_0 a0_1).bind fun t816 => (if t816 ≤ 0 then (if bt811.2.2 = 10 then ((tumblerlaw01_alive.f k).bind fun t817 => (some t817)) else ((wide_Cmp.f bt811.1 bt811.2.1 a0_0 a0_1).bind fun t818 => (if t818 > 0 then ((tumblerlaw01_alive.f k).bind fun t819 => (some t819)) else (some false)))) else (some false))) else (some false))) else (some false)) else (some false)) else (some false)))))))) = some r := H
 have A2 := Aside0.mk A20; clear A20
 replace H := Option.bind_eq_some_iff.mp H
 obtain ⟨t799, A30, H⟩ := H
 replace H : (if t799 < 0 then (if t797 = 13 then ((tumblerlaw01_alive.f k).bind fun t800 => (some t800)) else (some false)) else ((wide_Mul.f k t795 t796 t795 t796).bind fun bt801 => ((wide_Of.f 1).bind fun bt805 => ((wide_Add.f t795 t796 bt805.1 bt805.2).bind fun bt807 => ((wide_Mul.f k bt807.1 bt807.2.1 bt807.1 bt807.2.1).bind fun bt811 => (if t797 = 0 then (if bt801.2.2 = 0 then (if bt807.2.2 = 0 then ((wide_Sign.f t795 t796).bind fun t815 => (if t815 ≥ 0 then ((wide_Cmp.f bt801.1 bt801.2.1 a0_0 a0_1).bind fun t816 => (if t816 ≤ 0 then (if bt811.2.2 = 10 then ((tumblerlaw01_alive.f k).bind fun t817 => (some t817)) else ((wide_Cmp.f bt811.1 bt811.2.1 a0_0 a0_1).bind fun t818 => (if t818 > 0 then ((tumblerlaw01_alive.f k).bind fun t819 => (some t819)) else (some false)))) else (some false))) else (some false))) else (some false)) else (some false)) else (some false))))))) = some r := H
 have A3 := Aside0.mk A30; clear A30
 by_cases c4 : t799 < 0
 · rw [if_pos c4] at H
   have c4b0 : decide (t799 < 0) = true := decide_eq_true c4; clear c4
   by_cases c5 : t797 = 13
   · rw [if_pos c5] at H
     have c5b0 : (t797 == 13) = true := beq_iff_eq.mpr c5; have c5b1 : (t797 != 13) = false := bne_eq_false_iff_eq.mpr c5; clear c5
     replace H := Option.bind_eq_some_iff.mp H
     obtain ⟨t800, A60, H⟩ := H
     replace H : (some t800) = some r := H
     have A6 := Aside0.mk A60; clear A60
     obtain rfl := Option.some.inj H
     go_enter Tryd.func13, Tryd.ntmps13
     go_wp2_with (first | ((with_reducible refine gate_dst (N := 1) rfl ?_); refine box_event ?hg (N := 1) ?hd (cs := #[.int .i64 a0_0, .int .u64 a0_1]) (t := 24) ?hr ?_; (case hd => rfl); (case hg => rfl); (case hr => first | (go_simp; done) | (go_simp; rfl)); intro gb794 hg w7 hbox hb; have n0_ := am (below_step bz hb); have n1_ := am (hbox); have n2_ := am ((by rw [hg]; exact (below_size bz) : w.heap.size ≤ gb794)); have n3_ := am ((by rw [hg]; exact (below_size bz) : w.heap.size ≤ gb794)); clear HB; have HB := n0_; have BK794 := n1_; have GW794 := n2_; have GE794 := n3_; clear n0_ n1_ n2_ n3_; clear hb hbox hg; have hcz8_0 : w7.cell? ⟨gb794, 0, none⟩ = some (.int .i64 a0_0) := (blk_cell BK794.out 0).trans rfl; have hcz8_1 : w7.cell? ⟨gb794, 1, none⟩ = some (.int .u64 a0_1) := (blk_cell BK794.out 1).trans rfl; have hfz8_0 := blk_frozen BK794.out 0; have hfz8_1 := blk_frozen BK794.out 1) | ((with_reducible refine gate_callee (f := 36) rfl ?_); refine goesL_ (some 13) rfl rfl Tryd.func36 (by kernel_rfl) rfl #[.agg #[.int .i64 a0_0, .int .u64 a0_1]] rfl (by (try simp only [List.map_toArray, List.map_cons, List.map_nil]); first | done | rfl | (simp only [List.length_drop, List.length_take]; rfl)) ?_; (with_reducible refine (wide_Root.calls k a0_0 a0_1 t795 t796 t797 _ A2.out).mono ?_); rintro e w9 ⟨rfl, hb⟩; refine ⟨_, rfl, ?_⟩; have n0_ := am (bb BK794 hb); have n1_ := am (below_step bz hb); clear BK794; clear HB; have BK794 := n0_; have HB := n1_; clear n0_ n1_; (try clear hb); (try clear hb2); (try clear hk); (try clear hi)) | ((with_reducible refine gate_dst (N := 3) rfl ?_); refine box_event ?hg (N := 3) ?hd (cs := #[.int .i64 0, .int .u64 0]) (t := 24) ?hr ?_; (case hd => rfl); (case hg => rfl); (case hr => first | (go_simp; done) | (go_simp; rfl)); intro gb798 hg w10 hbox hb; have n0_ := am (bb BK794 hb); have n1_ := am (below_step bz hb); have n2_ := am (hbox); have n3_ := am ((by rw [hg]; exact (below_size bz) : w.heap.size ≤ gb798)); have n4_ := am ((by rw [hg]; exact (below_size bz) : w.heap.size ≤ gb798)); have n5_ := am ((by rw [hg]; exact Nat.ne_of_lt (bl BK794) : gb794 ≠ gb798)); have n6_ := am ((by rw [hg]; exact Nat.ne_of_gt (bl BK794) : gb798 ≠ gb794)); clear BK794; clear HB; have BK794 := n0_; have HB := n1_; have BK798 := n2_; have GW798 := n3_; have GE798 := n4_; have NB794_798 := n5_; have NB798_794 := n6_; clear n0_ n1_ n2_ n3_ n4_ n5_ n6_; clear hb hbox hg; have hnb11 := NB798_794.out; have hnc11 := NB794_798.out; have hcz12_0 : w10.cell? ⟨gb798, 0, none⟩ = some (.int .i64 0) := (blk_cell BK798.out 0).trans rfl; have hcz12_1 : w10.cell? ⟨gb798, 1, none⟩ = some (.int .u64 0) := (blk_cell BK798.out 1).trans rfl; have hfz12_0 := blk_frozen BK798.out 0; have hfz12_1 := blk_frozen BK798.out 1; have hcz13_0 : w10.cell? ⟨gb794, 0, none⟩ = some (.int .i64 a0_0) := (blk_cell BK794.out 0).trans rfl; have hcz13_1 : w10.cell? ⟨gb794, 1, none⟩ = some (.int .u64 a0_1) := (blk_cell BK794.out 1).trans rfl; have hfz13_0 := blk_frozen BK794.out 0; have hfz13_1 := blk_frozen BK794.out 1) | ((with_reducible refine gate_callee (f := 50) rfl ?_); refine goesL_ (some 17) rfl rfl Tryd.func50 (by kernel_rfl) rfl #[.agg #[.int .i64 a0_0, .int .u64 a0_1]] rfl (by (try simp only [List.map_toArray, List.map_cons, List.map_nil]); first | done | rfl | (simp only [List.length_drop, List.length_take]; rfl)) ?_; (with_reducible refine (wide_Sign.calls a0_0 a0_1 t799 _ A3.out).mono ?_); rintro e w14 ⟨rfl, hb⟩; refine ⟨_, rfl, ?_⟩; have n0_ := am (blk_below (g := gb794) (o := .cells #[.int .i64 a0_0, .int .u64 a0_1] 24 (0, 0)) (by (with_reducible repeat (first | apply bA | apply bB | apply bC)); refine blk_far ?_ NB794_798.out _; (with_reducible repeat (first | apply bA | apply bB | apply bC)); refine blk_far ?_ NB794_798.out _; (with_reducible repeat (first | apply bA | apply bB | apply bC)); exact BK794.out) hb); have n1_ := am (blk_below (g := gb798) (o := .cells #[.int .i64 t795, .int .u64 t796] 24 (0, 0)) (by (with_reducible repeat (first | apply bA | apply bB | apply bC)); refine blk_put (cs := #[.int .i64 t795, .int .u64 0]) ?_ 1 _ rfl; (with_reducible repeat (first | apply bA | apply bB | apply bC)); refine blk_put (cs := #[.int .i64 0, .int .u64 0]) ?_ 0 _ rfl; (with_reducible repeat (first | apply bA | apply bB | apply bC)); exact BK798.out) hb); have n2_ := am (below_step bz hb); clear BK794; clear BK798; clear HB; have BK794 := n0_; have BK798 := n1_; have HB := n2_; clear n0_ n1_ n2_; (try clear hb); (try clear hb2); (try clear hk); (try clear hi)) | (go_at_call 29; (with_reducible refine (tumblerlaw01_alive.calls k  t800 _ (tN hT) A6.out).mono ?_); rintro e w15 ⟨rfl, hb⟩; have n0_ := am (bb BK794 hb); have n1_ := am (bb BK798 hb); have n2_ := am (below_step bz hb); clear BK794; clear BK798; clear HB; have BK794 := n0_; have BK798 := n1_; have HB := n2_; clear n0_ n1_ n2_; (try clear hb); (try clear hb2); (try clear hk); (try clear hi)))
     go_ret
     exact ⟨by first | rfl | (simp [errW_none, errW_some] <;> rfl) | (simp [*, errW_none, errW_some] <;> rfl), by repeat (first | (with_reducible first | exact HB.out | apply dA | apply dB | apply dC | refine dE ?_ ‹_›) | exact HB.out)⟩
   · rw [if_neg c5] at H
     have c5b0 : (t797 == 13) = false := beq_eq_false_iff_ne.mpr c5; have c5b1 : (t797 != 13) = true := bne_iff_ne.mpr c5
     exact Bool.noConfusion ((Option.some.inj H).trans hr_.out)
 · rw [if_neg c4] at H
   have c4b0 : decide (t799 < 0) = false := decide_eq_false c4; clear c4
   replace H := Option.bind_eq_some_iff.mp H
   obtain ⟨⟨t801, t802, t803⟩, A160, H⟩ := H
   replace H : ((wide_Of.f 1).bind fun bt805 => ((wide_Add.f t795 t796 bt805.1 bt805.2).bind fun bt807 => ((wide_Mul.f k bt807.1 bt807.2.1 bt807.1 bt807.2.1).bind fun bt811 => (if t797 = 0 then (if t803 = 0 then (if bt807.2.2 = 0 then ((wide_Sign.f t795 t796).bind fun t815 => (if t815 ≥ 0 then ((wide_Cmp.f t801 t802 a0_0 a0_1).bind fun t816 => (if t816 ≤ 0 then (if bt811.2.2 = 10 then ((tumblerlaw01_alive.f k).bind fun t817 => (some t817)) else ((wide_Cmp.f bt811.1 bt811.2.1 a0_0 a0_1).bind fun t818 => (if t818 > 0 then ((tumblerlaw01_alive.f k).bind fun t819 => (some t819)) else (some false)))) else (some false))) else (some false))) else (some false)) else (some false)) else (some false))))) = some r := H
   have A16 := Aside0.mk A160; clear A160
   replace H := Option.bind_eq_some_iff.mp H
   obtain ⟨⟨t805, t806⟩, A170, H⟩ := H
   replace H : ((wide_Add.f t795 t796 t805 t806).bind fun bt807 => ((wide_Mul.f k bt807.1 bt807.2.1 bt807.1 bt807.2.1).bind fun bt811 => (if t797 = 0 then (if t803 = 0 then (if bt807.2.2 = 0 then ((wide_Sign.f t795 t796).bind fun t815 => (if t815 ≥ 0 then ((wide_Cmp.f t801 t802 a0_0 a0_1).bind fun t816 => (if t816 ≤ 0 then (if bt811.2.2 = 10 then ((tumblerlaw01_alive.f k).bind fun t817 => (some t817)) else ((wide_Cmp.f bt811.1 bt811.2.1 a0_0 a0_1).bind fun t818 => (if t818 > 0 then ((tumblerlaw01_alive.f k).bind fun t819 => (some t819)) else (some false)))) else (some false))) else (some false))) else (some false)) else (some false)) else (some false)))) = some r := H
   have A17 := Aside0.mk A170; clear A170
   replace H := Option.bind_eq_some_iff.mp H
   obtain ⟨⟨t807, t808, t809⟩, A180, H⟩ := H
   replace H : ((wide_Mul.f k t807 t808 t807 t808).bind fun bt811 => (if t797 = 0 then (if t803 = 0 then (if t809 = 0 then ((wide_Sign.f t795 t796).bind fun t815 => (if t815 ≥ 0 then ((wide_Cmp.f t801 t802 a0_0 a0_1).bind fun t816 => (if t816 ≤ 0 then (if bt811.2.2 = 10 then ((tumblerlaw01_alive.f k).bind fun t817 => (some t817)) else ((wide_Cmp.f bt811.1 bt811.2.1 a0_0 a0_1).bind fun t818 => (if t818 > 0 then ((tumblerlaw01_alive.f k).bind fun t819 => (some t819)) else (some false)))) else (some false))) else (some false))) else (some false)) else (some false)) else (some false))) = some r := H
   have A18 := Aside0.mk A180; clear A180
   replace H := Option.bind_eq_some_iff.mp H
   obtain ⟨⟨t811, t812, t813⟩, A190, H⟩ := H
   replace H : (if t797 = 0 then (if t803 = 0 then (if t809 = 0 then ((wide_Sign.f t795 t796).bind fun t815 => (if t815 ≥ 0 then ((wide_Cmp.f t801 t802 a0_0 a0_1).bind fun t816 => (if t816 ≤ 0 then (if t813 = 10 then ((tumblerlaw01_alive.f k).bind fun t817 => (some t817)) else ((wide_Cmp.f t811 t812 a0_0 a0_1).bind fun t818 => (if t818 > 0 then ((tumblerlaw01_alive.f k).bind fun t819 => (some t819)) else (some false)))) else (some false))) else (some false))) else (some false)) else (some false)) else (some false)) = some r := H
   have A19 := Aside0.mk A190; clear A190
   by_cases c20 : t797 = 0
   · rw [if_pos c20] at H
     have c20b0 : (t797 == 0) = true := beq_iff_eq.mpr c20; have c20b1 : (t797 != 0) = false := bne_eq_false_iff_eq.mpr c20; clear c20
     by_cases c21 : t803 = 0
     · rw [if_pos c21] at H
       have c21b0 : (t803 == 0) = true := beq_iff_eq.mpr c21; have c21b1 : (t803 != 0) = false := bne_eq_false_iff_eq.mpr c21; clear c21
       by_cases c22 : t809 = 0
       · rw [if_pos c22] at H
         have c22b0 : (t809 == 0) = true := beq_iff_eq.mpr c22; have c22b1 : (t809 != 0) = false := bne_eq_false_iff_eq.mpr c22; clear c22
         replace H := Option.bind_eq_some_iff.mp H
         obtain ⟨t815, A230, H⟩ := H
         replace H : (if t815 ≥ 0 then ((wide_Cmp.f t801 t802 a0_0 a0_1).bind fun t816 => (if t816 ≤ 0 then (if t813 = 10 then ((tumblerlaw01_alive.f k).bind fun t817 => (some t817)) else ((wide_Cmp.f t811 t812 a0_0 a0_1).bind fun t818 => (if t818 > 0 then ((tumblerlaw01_alive.f k).bind fun t819 => (some t819)) else (some false)))) else (some false))) else (some false)) = some r := H
         have A23 := Aside0.mk A230; clear A230
         by_cases c24 : t815 ≥ 0
         · rw [if_pos c24] at H
           have c24b0 : decide (0 ≤ t815) = true := decide_eq_true c24; clear c24
           replace H := Option.bind_eq_some_iff.mp H
           obtain ⟨t816, A250, H⟩ := H
           replace H : (if t816 ≤ 0 then (if t813 = 10 then ((tumblerlaw01_alive.f k).bind fun t817 => (some t817)) else ((wide_Cmp.f t811 t812 a0_0 a0_1).bind fun t818 => (if t818 > 0 then ((tumblerlaw01_alive.f k).bind fun t819 => (some t819)) else (some false)))) else (some false)) = some r := H
           have A25 := Aside0.mk A250; clear A250
           by_cases c26 : t816 ≤ 0
           · rw [if_pos c26] at H
             have c26b0 : decide (t816 ≤ 0) = true := decide_eq_true c26; clear c26
             by_cases c27 : t813 = 10
             · rw [if_pos c27] at H
               have c27b0 : (t813 == 10) = true := beq_iff_eq.mpr c27; have c27b1 : (t813 != 10) = false := bne_eq_false_iff_eq.mpr c27; clear c27
               replace H := Option.bind_eq_some_iff.mp H
               obtain ⟨t817, A280, H⟩ := H
               replace H : (some t817) = some r := H
               have A28 := Aside0.mk A280; clear A280
               obtain rfl := Option.some.inj H
               go_enter Tryd.func13, Tryd.ntmps13
               try go_wp2_with (first | ((with_reducible refine gate_dst (N := 1) rfl ?_); refine box_event ?hg (N := 1) ?hd (cs := #[.int .i64 a0_0, .int .u64 a0_1]) (t := 24) ?hr ?_; (case hd => rfl); (case hg => rfl); (case hr => first | (go_simp; done) | (go_simp; rfl)); intro gb794 hg w29 hbox hb; have n0_ := am (below_step bz hb); have n1_ := am (hbox); have n2_ := am ((by rw [hg]; exact (below_size bz) : w.heap.size ≤ gb794)); have n3_ := am ((by rw [hg]; exact (below_size bz) : w.heap.size ≤ gb794)); clear HB; have HB := n0_; have BK794 := n1_; have GW794 := n2_; have GE794 := n3_; clear n0_ n1_ n2_ n3_; clear hb hbox hg; have hcz30_0 : w29.cell? ⟨gb794, 0, none⟩ = some (.int .i64 a0_0) := (blk_cell BK794.out 0).trans rfl; have hcz30_1 : w29.cell? ⟨gb794, 1, none⟩ = some (.int .u64 a0_1) := (blk_cell BK794.out 1).trans rfl; have hfz30_0 := blk_frozen BK794.out 0; have hfz30_1 := blk_frozen BK794.out 1) | ((with_reducible refine gate_callee (f := 36) rfl ?_); refine goesL_ (some 13) rfl rfl Tryd.func36 (by kernel_rfl) rfl #[.agg #[.int .i64 a0_0, .int .u64 a0_1]] rfl (by (try simp only [List.map_toArray, List.map_cons, List.map_nil]); first | done | rfl | (simp only [List.length_drop, List.length_take]; rfl)) ?_; (with_reducible refine (wide_Root.calls k a0_0 a0_1 t795 t796 t797 _ A2.out).mono ?_); rintro e w31 ⟨rfl, hb⟩; refine ⟨_, rfl, ?_⟩; have n0_ := am (bb BK794 hb); have n1_ := am (below_step bz hb); clear BK794; clear HB; have BK794 := n0_; have HB := n1_; clear n0_ n1_; (try clear hb); (try clear hb2); (try clear hk); (try clear hi)) | ((with_reducible refine gate_dst (N := 3) rfl ?_); refine box_event ?hg (N := 3) ?hd (cs := #[.int .i64 0, .int .u64 0]) (t := 24) ?hr ?_; (case hd => rfl); (case hg => rfl); (case hr => first | (go_simp; done) | (go_simp; rfl)); intro gb798 hg w32 hbox hb; have n0_ := am (bb BK794 hb); have n1_ := am (below_step bz hb); have n2_ := am (hbox); have n3_ := am ((by rw [hg]; exact (below_size bz) : w.heap.size ≤ gb798)); have n4_ := am ((by rw [hg]; exact (below_size bz) : w.heap.size ≤ gb798)); have n5_ := am ((by rw [hg]; exact Nat.ne_of_lt (bl BK794) : gb794 ≠ gb798)); have n6_ := am ((by rw [hg]; exact Nat.ne_of_gt (bl BK794) : gb798 ≠ gb794)); clear BK794; clear HB; have BK794 := n0_; have HB := n1_; have BK798 := n2_; have GW798 := n3_; have GE798 := n4_; have NB794_798 := n5_; have NB798_794 := n6_; clear n0_ n1_ n2_ n3_ n4_ n5_ n6_; clear hb hbox hg; have hnb33 := NB798_794.out; have hnc33 := NB794_798.out; have hcz34_0 : w32.cell? ⟨gb798, 0, none⟩ = some (.int .i64 0) := (blk_cell BK798.out 0).trans rfl; have hcz34_1 : w32.cell? ⟨gb798, 1, none⟩ = some (.int .u64 0) := (blk_cell BK798.out 1).trans rfl; have hfz34_0 := blk_frozen BK798.out 0; have hfz34_1 := blk_frozen BK798.out 1; have hcz35_0 : w32.cell? ⟨gb794, 0, none⟩ = some (.int .i64 a0_0) := (blk_cell BK794.out 0).trans rfl; have hcz35_1 : w32.cell? ⟨gb794, 1, none⟩ = some (.int .u64 a0_1) := (blk_cell BK794.out 1).trans rfl; have hfz35_0 := blk_frozen BK794.out 0; have hfz35_1 := blk_frozen BK794.out 1) | ((with_reducible refine gate_callee (f := 50) rfl ?_); refine goesL_ (some 17) rfl rfl Tryd.func50 (by kernel_rfl) rfl #[.agg #[.int .i64 a0_0, .int .u64 a0_1]] rfl (by (try simp only [List.map_toArray, List.map_cons, List.map_nil]); first | done | rfl | (simp only [List.length_drop, List.length_take]; rfl)) ?_; (with_reducible refine (wide_Sign.calls a0_0 a0_1 t799 _ A3.out).mono ?_); rintro e w36 ⟨rfl, hb⟩; refine ⟨_, rfl, ?_⟩; have n0_ := am (blk_below (g := gb794) (o := .cells #[.int .i64 a0_0, .int .u64 a0_1] 24 (0, 0)) (by (with_reducible repeat (first | apply bA | apply bB | apply bC)); refine blk_far ?_ NB794_798.out _; (with_reducible repeat (first | apply bA | apply bB | apply bC)); refine blk_far ?_ NB794_798.out _; (with_reducible repeat (first | apply bA | apply bB | apply bC)); exact BK794.out) hb); have n1_ := am (blk_below (g := gb798) (o := .cells #[.int .i64 t795, .int .u64 t796] 24 (0, 0)) (by (with_reducible repeat (first | apply bA | apply bB | apply bC)); refine blk_put (cs := #[.int .i64 t795, .int .u64 0]) ?_ 1 _ rfl; (with_reducible repeat (first | apply bA | apply bB | apply bC)); refine blk_put (cs := #[.int .i64 0, .int .u64 0]) ?_ 0 _ rfl; (with_reducible repeat (first | apply bA | apply bB | apply bC)); exact BK798.out) hb); have n2_ := am (below_step bz hb); clear BK794; clear BK798; clear HB; have BK794 := n0_; have BK798 := n1_; have HB := n2_; clear n0_ n1_ n2_; (try clear hb); (try clear hb2); (try clear hk); (try clear hi); have hcz37_0 : w36.cell? ⟨gb798, 0, none⟩ = some (.int .i64 t795) := (blk_cell BK798.out 0).trans rfl; have hcz37_1 : w36.cell? ⟨gb798, 1, none⟩ = some (.int .u64 t796) := (blk_cell BK798.out 1).trans rfl; have hfz37_0 := blk_frozen BK798.out 0; have hfz37_1 := blk_frozen BK798.out 1) | ((with_reducible refine gate_callee (f := 27) rfl ?_); refine goesL_ (some 27) rfl rfl Tryd.func27 (by kernel_rfl) rfl #[.agg #[.int .i64 t795, .int .u64 t796], .agg #[.int .i64 t795, .int .u64 t796]] rfl (by (try simp only [List.map_toArray, List.map_cons, List.map_nil]); first | done | rfl | (simp only [List.length_drop, List.length_take]; rfl)) ?_; (with_reducible refine (wide_Mul.calls k t795 t796 t795 t796 t801 t802 t803 _ A16.out).mono ?_); rintro e w38 ⟨rfl, hb⟩; refine ⟨_, rfl, ?_⟩; have n0_ := am (bb BK794 hb); have n1_ := am (bb BK798 hb); have n2_ := am (below_step bz hb); clear BK794; clear BK798; clear HB; have BK794 := n0_; have BK798 := n1_; have HB := n2_; clear n0_ n1_ n2_; (try clear hb); (try clear hb2); (try clear hk); (try clear hi)) | ((with_reducible refine gate_dst (N := 5) rfl ?_); refine box_event ?hg (N := 5) ?hd (cs := #[.int .i64 0, .int .u64 0]) (t := 24) ?hr ?_; (case hd => rfl); (case hg => rfl); (case hr => first | (go_simp; done) | (go_simp; rfl)); intro gb804 hg w39 hbox hb; have n0_ := am (bb BK794 hb); have n1_ := am (bb BK798 hb); have n2_ := am (below_step bz hb); have n3_ := am (hbox); have n4_ := am ((by rw [hg]; exact (below_size bz) : w.heap.size ≤ gb804)); have n5_ := am ((by rw [hg]; exact (below_size bz) : w.heap.size ≤ gb804)); have n6_ := am ((by rw [hg]; exact Nat.ne_of_lt (bl BK794) : gb794 ≠ gb804)); have n7_ := am ((by rw [hg]; exact Nat.ne_of_gt (bl BK794) : gb804 ≠ gb794)); have n8_ := am ((by rw [hg]; exact Nat.ne_of_lt (bl BK798) : gb798 ≠ gb804)); have n9_ := am ((by rw [hg]; exact Nat.ne_of_gt (bl BK798) : gb804 ≠ gb798)); clear BK794; clear BK798; clear HB; have BK794 := n0_; have BK798 := n1_; have HB := n2_; have BK804 := n3_; have GW804 := n4_; have GE804 := n5_; have NB794_804 := n6_; have NB804_794 := n7_; have NB798_804 := n8_; have NB804_798 := n9_; clear n0_ n1_ n2_ n3_ n4_ n5_ n6_ n7_ n8_ n9_; clear hb hbox hg; have hnb40 := NB804_794.out; have hnc40 := NB794_804.out; have hnb41 := NB804_798.out; have hnc41 := NB798_804.out; have hcz42_0 : w39.cell? ⟨gb804, 0, none⟩ = some (.int .i64 0) := (blk_cell BK804.out 0).trans rfl; have hcz42_1 : w39.cell? ⟨gb804, 1, none⟩ = some (.int .u64 0) := (blk_cell BK804.out 1).trans rfl; have hfz42_0 := blk_frozen BK804.out 0; have hfz42_1 := blk_frozen BK804.out 1))
               have n0_ : Aside0 (((w39.setCell ⟨gb804, 0, none⟩ (.int .i64 t801)).setCell ⟨gb804, 1, none⟩ (.int .u64 t802)).heap[gb794]? = some (.cells #[.int .i64 a0_0, .int .u64 a0_1] 24 (0, 0))) := ⟨by (with_reducible repeat (first | apply bA | apply bB | apply bC)); refine blk_far ?_ NB794_804.out _; (with_reducible repeat (first | apply bA | apply bB | apply bC)); refine blk_far ?_ NB794_804.out _; (with_reducible repeat (first | apply bA | apply bB | apply bC)); exact BK794.out⟩; have n1_ : Aside0 (((w39.setCell ⟨gb804, 0, none⟩ (.int .i64 t801)).setCell ⟨gb804, 1, none⟩ (.int .u64 t802)).heap[gb798]? = some (.cells #[.int .i64 t795, .int .u64 t796] 24 (0, 0))) := ⟨by (with_reducible repeat (first | apply bA | apply bB | apply bC)); refine blk_far ?_ NB798_804.out _; (with_reducible repeat (first | apply bA | apply bB | apply bC)); refine blk_far ?_ NB798_804.out _; (with_reducible repeat (first | apply bA | apply bB | apply bC)); exact BK798.out⟩; have n2_ : Aside0 (((w39.setCell ⟨gb804, 0, none⟩ (.int .i64 t801)).setCell ⟨gb804, 1, none⟩ (.int .u64 t802)).heap[gb804]? = some (.cells #[.int .i64 t801, .int .u64 t802] 24 (0, 0))) := ⟨by (with_reducible repeat (first | apply bA | apply bB | apply bC)); refine blk_put (cs := #[.int .i64 t801, .int .u64 0]) ?_ 1 _ rfl; (with_reducible repeat (first | apply bA | apply bB | apply bC)); refine blk_put (cs := #[.int .i64 0, .int .u64 0]) ?_ 0 _ rfl; (with_reducible repeat (first | apply bA | apply bB | apply bC)); exact BK804.out⟩; have n3_ : Aside0 (Below w.heap.size w ((w39.setCell ⟨gb804, 0, none⟩ (.int .i64 t801)).setCell ⟨gb804, 1, none⟩ (.int .u64 t802))) := ⟨by repeat (first | (with_reducible first | exact HB.out | apply dA | apply dB | apply dC | refine dE ?_ ‹_›) | exact HB.out)⟩; (try clear BK794); (try clear BK798); (try clear BK804); (try clear HB); generalize ((w39.setCell ⟨gb804, 0, none⟩ (.int .i64 t801)).setCell ⟨gb804, 1, none⟩ (.int .u64 t802)) = w43 at n0_ n1_ n2_ n3_ ⊢; have BK794 := n0_; have BK798 := n1_; have BK804 := n2_; have HB := n3_; clear n0_ n1_ n2_ n3_; have n0_ := am (blk_drew BK794.out); have n1_ := am (blk_drew BK798.out); have n2_ := am (blk_drew BK804.out); have n3_ := am (below_drew1 HB.out); clear BK794 BK798 BK804 HB; have BK794 := n0_; have BK798 := n1_; have BK804 := n2_; have HB := n3_; clear n0_ n1_ n2_ n3_
               refine start_ (n := 9) (S := fun w' => w'.cell? ⟨gb798, 0, none⟩ = some (.int .i64 t795) ∧ w'.cell? ⟨gb798, 1, none⟩ = some (.int .u64 t796)) (ds := []) #[false, false, false, false, false, false, false, false, false] (by kernel_rfl) rfl rfl ⟨(blk_cell BK798.out 0).trans rfl, (blk_cell BK798.out 1).trans rfl⟩ (fun hHeld => ?_); refine with_tabW tumblerlaw01_WideSquares.tab5 tumblerlaw01_WideSquares.bits5 (fun HT_ HW_ => ?_)
               generalize w43.drew = w44 at BK794 BK798 BK804 HB hHeld ⊢
               refine take_ (i := 0) (N := some 31) (v := ?_) (a' := ?_) #[true, false, false, false, false, false, false, false, false] rfl rfl (take_ofW HT_.out HW_.out (by kernel_rfl)) (fun _ _ _ h => h) (Or.inl ⟨by rfl, ?_⟩) hHeld ?_ ?_
               rotate_left
               · rintro w' ⟨s0, s1⟩
                 go_simp
                 with_reducible rfl
               rotate_left
               · simp only [Act.put, List.setIfInBounds_toArray, List.set_cons_zero, List.set_cons_succ, i64_w, i32_w]
                 rfl
               refine join_ (σ := Nat) 2 #[true, true, true, true, true, true, true, false, false] (fun s_ => [(32, .agg #[.int .i64 t805, .int .u64 t806]), (33, .tuple #[.agg #[.int .i64 t807, .int .u64 t808], .int .i64 t809]), (7, .pointer (some ⟨s_, 0, none⟩)), (30, .tuple #[.agg #[.int .i64 t807, .int .u64 t808], .int .i64 t809]), (34, .agg #[.int .i64 t807, .int .u64 t808]), (35, .int .i64 t809)]) (fun s_ w' => (w'.cell? ⟨gb798, 0, none⟩ = some (.int .i64 t795) ∧ w'.cell? ⟨gb798, 1, none⟩ = some (.int .u64 t796)) ∧ (w'.heap[gb794]? = some (.cells #[.int .i64 a0_0, .int .u64 a0_1] 24 (0, 0))) ∧ (w'.heap[gb798]? = some (.cells #[.int .i64 t795, .int .u64 t796] 24 (0, 0))) ∧ (w'.heap[gb804]? = some (.cells #[.int .i64 t801, .int .u64 t802] 24 (0, 0))) ∧ (w'.heap[s_]? = some (.cells #[.int .i64 0, .int .u64 0] 24 (0, 0))) ∧ (w.heap.size ≤ s_) ∧ (w.heap.size ≤ s_) ∧ (gb794 ≠ s_) ∧ (s_ ≠ gb794) ∧ (gb798 ≠ s_) ∧ (s_ ≠ gb798) ∧ (gb804 ≠ s_) ∧ (s_ ≠ gb804) ∧ (Below w.heap.size w w')) ?_ ?_
               rotate_left
               · intro hCont
                 refine two_ (i := 1) (j := 6) (Ni := some 32) (Nj := some 7) #[true, true, false, false, false, false, false, false, false] #[true, false, false, false, false, false, true, false, false] rfl rfl rfl rfl (two_of HT_.out (by kernel_rfl)) (by decide) (by decide) (fun K hK => ?_) (fun K hK => ?_)
                 · skip
                   refine goes_ Tryd.func47 (by kernel_rfl) rfl #[.int .i64 1] (by rfl) rfl rfl (by (try simp only [List.map_toArray, List.map_cons, List.map_nil]); first | done | rfl | (simp only [List.length_drop, List.length_take]; rfl)) ?_
                   with_reducible refine (wide_Of.calls 1 t805 t806 _ A17.out).mono ?_
                   rintro e w45 ⟨rfl, hb⟩; refine ⟨_, rfl, ?_⟩; have n0_ := am (bb BK794 hb); have n1_ := am (bb BK798 hb); have n2_ := am (bb BK804 hb); have n3_ := am (below_step bz hb); clear BK794 BK798 BK804 HB; have BK794 := n0_; have BK798 := n1_; have BK804 := n2_; have HB := n3_; clear n0_ n1_ n2_ n3_; (try clear hb); (try clear hb2); (try clear hk); (try clear hi)
                   refine hK.out _ _ ⟨(blk_cell BK798.out 0).trans rfl, (blk_cell BK798.out 1).trans rfl⟩ (fun hHeld => ?_)
                   clear hK K
                   refine norm_ (a' := ?_) ?_ ?_
                   rotate_left
                   · show Act.put _ (some 32) _ = _
                     simp only [Act.put, List.setIfInBounds_toArray, List.set_cons_zero, List.set_cons_succ, i64_w, i32_w]
                     rfl
                   refine two_ (i := 2) (j := 6) (Ni := some 33) (Nj := some 7) #[true, true, true, false, false, false, false, false, false] #[true, true, false, false, false, false, true, false, false] rfl rfl rfl rfl (two_of HT_.out (by kernel_rfl)) (by decide) (by decide) (fun K hK => ?_) (fun K hK => ?_)
                   · skip
                     refine goes_ Tryd.func31 (by kernel_rfl) rfl #[.agg #[.int .i64 t795, .int .u64 t796], .agg #[.int .i64 t805, .int .u64 t806]] (by rfl) rfl rfl (by (try simp only [List.map_toArray, List.map_cons, List.map_nil]); first | done | rfl | (simp only [List.length_drop, List.length_take]; rfl)) ?_
                     with_reducible refine (wide_Add.calls t795 t796 t805 t806 t807 t808 t809 _ A18.out).mono ?_
                     rintro e w46 ⟨rfl, hb⟩; refine ⟨_, rfl, ?_⟩; have n0_ := am (bb BK794 hb); have n1_ := am (bb BK798 hb); have n2_ := am (bb BK804 hb); have n3_ := am (below_step bz hb); clear BK794 BK798 BK804 HB; have BK794 := n0_; have BK798 := n1_; have BK804 := n2_; have HB := n3_; clear n0_ n1_ n2_ n3_; (try clear hb); (try clear hb2); (try clear hk); (try clear hi)
                     refine hK.out _ _ ⟨(blk_cell BK798.out 0).trans rfl, (blk_cell BK798.out 1).trans rfl⟩ (fun hHeld => ?_)
                     clear hK K
                     refine norm_ (a' := ?_) ?_ ?_
                     rotate_left
                     · show Act.put _ (some 33) _ = _
                       simp only [Act.put, List.setIfInBounds_toArray, List.set_cons_zero, List.set_cons_succ, i64_w, i32_w]
                       rfl
                     refine pure_ (i := 3) (N := some 30) (v := ?_) (a' := ?_) #[true, true, true, true, false, false, false, false, false] rfl rfl (any_of HT_.out (by kernel_rfl)) (fun _ _ _ h => h) (Or.inl ⟨by rfl, ?_⟩) ?_ ?_
                     rotate_left
                     · intro w'
                       go_simp
                       with_reducible rfl
                     rotate_left
                     · simp only [Act.put, List.setIfInBounds_toArray, List.set_cons_zero, List.set_cons_succ, i64_w, i32_w]
                       rfl
                     refine pure_ (i := 4) (N := some 34) (v := ?_) (a' := ?_) #[true, true, true, true, true, false, false, false, false] rfl rfl (any_of HT_.out (by kernel_rfl)) (fun _ _ _ h => h) (Or.inl ⟨by rfl, ?_⟩) ?_ ?_
                     rotate_left
                     · intro w'
                       go_simp
                       with_reducible rfl
                     rotate_left
                     · simp only [Act.put, List.setIfInBounds_toArray, List.set_cons_zero, List.set_cons_succ, i64_w, i32_w]
                       rfl
                     refine pure_ (i := 5) (N := some 35) (v := ?_) (a' := ?_) #[true, true, true, true, true, true, false, false, false] rfl rfl (any_of HT_.out (by kernel_rfl)) (fun _ _ _ h => h) (Or.inl ⟨by rfl, ?_⟩) ?_ ?_
                     rotate_left
                     · intro w'
                       go_simp
                       with_reducible rfl
                     rotate_left
                     · simp only [Act.put, List.setIfInBounds_toArray, List.set_cons_zero, List.set_cons_succ, i64_w, i32_w]
                       rfl
                     refine one_ (i := 6) (N := some 7) #[true, true, true, true, true, true, true, false, false] rfl rfl (one_of HT_.out (by kernel_rfl)) (by decide) (fun K hK => ?_)
                     refine box_step ?hg (N := 7) ?hd (cs := #[.int .i64 0, .int .u64 0]) (t := 24) ?hr ?_; (case hd => rfl); (case hg => rfl); (case hr => first | (go_simp; done) | (go_simp; rfl))
                     intro gb810 hg w47 hbox hb; have n0_ := am (bb BK794 hb); have n1_ := am (bb BK798 hb); have n2_ := am (bb BK804 hb); have n3_ := am (below_step bz hb); have n4_ := am (hbox); have n5_ := am ((by rw [hg]; exact (below_size bz) : w.heap.size ≤ gb810)); have n6_ := am ((by rw [hg]; exact (below_size bz) : w.heap.size ≤ gb810)); have n7_ := am ((by rw [hg]; exact Nat.ne_of_lt (bl BK794) : gb794 ≠ gb810)); have n8_ := am ((by rw [hg]; exact Nat.ne_of_gt (bl BK794) : gb810 ≠ gb794)); have n9_ := am ((by rw [hg]; exact Nat.ne_of_lt (bl BK798) : gb798 ≠ gb810)); have n10_ := am ((by rw [hg]; exact Nat.ne_of_gt (bl BK798) : gb810 ≠ gb798)); have n11_ := am ((by rw [hg]; exact Nat.ne_of_lt (bl BK804) : gb804 ≠ gb810)); have n12_ := am ((by rw [hg]; exact Nat.ne_of_gt (bl BK804) : gb810 ≠ gb804)); clear BK794 BK798 BK804 HB; have BK794 := n0_; have BK798 := n1_; have BK804 := n2_; have HB := n3_; have BK810 := n4_; have GW810 := n5_; have GE810 := n6_; have NB794_810 := n7_; have NB810_794 := n8_; have NB798_810 := n9_; have NB810_798 := n10_; have NB804_810 := n11_; have NB810_804 := n12_; clear n0_ n1_ n2_ n3_ n4_ n5_ n6_ n7_ n8_ n9_ n10_ n11_ n12_ hb hbox hg
                     refine hK.out _ _ ⟨(blk_cell BK798.out 0).trans rfl, (blk_cell BK798.out 1).trans rfl⟩ (fun hHeld => ?_)
                     clear hK K
                     refine norm_ (a' := ?_) ?_ ?_
                     rotate_left
                     · show Act.put _ (some 7) _ = _
                       simp only [Act.put, List.setIfInBounds_toArray, List.set_cons_zero, List.set_cons_succ, i64_w, i32_w]
                       rfl
                     exact norm_ (by simp only [putAll, Act.put, List.setIfInBounds_toArray, List.set_cons_zero, List.set_cons_succ]) (hCont (gb810) _ ⟨hHeld, (bq BK794), (bq BK798), (bq BK804), (bq BK810), GW810.out, GE810.out, NB794_810.out, NB810_794.out, NB798_810.out, NB810_798.out, NB804_810.out, NB810_804.out, bz⟩)
                   · skip
                     refine box_step ?hg (N := 7) ?hd (cs := #[.int .i64 0, .int .u64 0]) (t := 24) ?hr ?_; (case hd => rfl); (case hg => rfl); (case hr => first | (go_simp; done) | (go_simp; rfl))
                     intro gb810 hg w46 hbox hb; have n0_ := am (bb BK794 hb); have n1_ := am (bb BK798 hb); have n2_ := am (bb BK804 hb); have n3_ := am (below_step bz hb); have n4_ := am (hbox); have n5_ := am ((by rw [hg]; exact (below_size bz) : w.heap.size ≤ gb810)); have n6_ := am ((by rw [hg]; exact (below_size bz) : w.heap.size ≤ gb810)); have n7_ := am ((by rw [hg]; exact Nat.ne_of_lt (bl BK794) : gb794 ≠ gb810)); have n8_ := am ((by rw [hg]; exact Nat.ne_of_gt (bl BK794) : gb810 ≠ gb794)); have n9_ := am ((by rw [hg]; exact Nat.ne_of_lt (bl BK798) : gb798 ≠ gb810)); have n10_ := am ((by rw [hg]; exact Nat.ne_of_gt (bl BK798) : gb810 ≠ gb798)); have n11_ := am ((by rw [hg]; exact Nat.ne_of_lt (bl BK804) : gb804 ≠ gb810)); have n12_ := am ((by rw [hg]; exact Nat.ne_of_gt (bl BK804) : gb810 ≠ gb804)); clear BK794 BK798 BK804 HB; have BK794 := n0_; have BK798 := n1_; have BK804 := n2_; have HB := n3_; have BK810 := n4_; have GW810 := n5_; have GE810 := n6_; have NB794_810 := n7_; have NB810_794 := n8_; have NB798_810 := n9_; have NB810_798 := n10_; have NB804_810 := n11_; have NB810_804 := n12_; clear n0_ n1_ n2_ n3_ n4_ n5_ n6_ n7_ n8_ n9_ n10_ n11_ n12_ hb hbox hg
                     refine hK.out _ _ ⟨(blk_cell BK798.out 0).trans rfl, (blk_cell BK798.out 1).trans rfl⟩ (fun hHeld => ?_)
                     clear hK K
                     refine norm_ (a' := ?_) ?_ ?_
                     rotate_left
                     · show Act.put _ (some 7) _ = _
                       simp only [Act.put, List.setIfInBounds_toArray, List.set_cons_zero, List.set_cons_succ, i64_w, i32_w]
                       rfl
                     refine one_ (i := 2) (N := some 33) #[true, true, true, false, false, false, true, false, false] rfl rfl (one_of HT_.out (by kernel_rfl)) (by decide) (fun K hK => ?_)
                     refine goes_ Tryd.func31 (by kernel_rfl) rfl #[.agg #[.int .i64 t795, .int .u64 t796], .agg #[.int .i64 t805, .int .u64 t806]] (by rfl) rfl rfl (by (try simp only [List.map_toArray, List.map_cons, List.map_nil]); first | done | rfl | (simp only [List.length_drop, List.length_take]; rfl)) ?_
                     with_reducible refine (wide_Add.calls t795 t796 t805 t806 t807 t808 t809 _ A18.out).mono ?_
                     rintro e w47 ⟨rfl, hb⟩; refine ⟨_, rfl, ?_⟩; have n0_ := am (bb BK794 hb); have n1_ := am (bb BK798 hb); have n2_ := am (bb BK804 hb); have n3_ := am (bb BK810 hb); have n4_ := am (below_step bz hb); clear BK794 BK798 BK804 BK810 HB; have BK794 := n0_; have BK798 := n1_; have BK804 := n2_; have BK810 := n3_; have HB := n4_; clear n0_ n1_ n2_ n3_ n4_; (try clear hb); (try clear hb2); (try clear hk); (try clear hi)
                     refine hK.out _ _ ⟨(blk_cell BK798.out 0).trans rfl, (blk_cell BK798.out 1).trans rfl⟩ (fun hHeld => ?_)
                     clear hK K
                     refine norm_ (a' := ?_) ?_ ?_
                     rotate_left
                     · show Act.put _ (some 33) _ = _
                       simp only [Act.put, List.setIfInBounds_toArray, List.set_cons_zero, List.set_cons_succ, i64_w, i32_w]
                       rfl
                     refine pure_ (i := 3) (N := some 30) (v := ?_) (a' := ?_) #[true, true, true, true, false, false, true, false, false] rfl rfl (any_of HT_.out (by kernel_rfl)) (fun _ _ _ h => h) (Or.inl ⟨by rfl, ?_⟩) ?_ ?_
                     rotate_left
                     · intro w'
                       go_simp
                       with_reducible rfl
                     rotate_left
                     · simp only [Act.put, List.setIfInBounds_toArray, List.set_cons_zero, List.set_cons_succ, i64_w, i32_w]
                       rfl
                     refine pure_ (i := 4) (N := some 34) (v := ?_) (a' := ?_) #[true, true, true, true, true, false, true, false, false] rfl rfl (any_of HT_.out (by kernel_rfl)) (fun _ _ _ h => h) (Or.inl ⟨by rfl, ?_⟩) ?_ ?_
                     rotate_left
                     · intro w'
                       go_simp
                       with_reducible rfl
                     rotate_left
                     · simp only [Act.put, List.setIfInBounds_toArray, List.set_cons_zero, List.set_cons_succ, i64_w, i32_w]
                       rfl
                     refine pure_ (i := 5) (N := some 35) (v := ?_) (a' := ?_) #[true, true, true, true, true, true, true, false, false] rfl rfl (any_of HT_.out (by kernel_rfl)) (fun _ _ _ h => h) (Or.inl ⟨by rfl, ?_⟩) ?_ ?_
                     rotate_left
                     · intro w'
                       go_simp
                       with_reducible rfl
                     rotate_left
                     · simp only [Act.put, List.setIfInBounds_toArray, List.set_cons_zero, List.set_cons_succ, i64_w, i32_w]
                       rfl
                     exact norm_ (by simp only [putAll, Act.put, List.setIfInBounds_toArray, List.set_cons_zero, List.set_cons_succ]) (hCont (gb810) _ ⟨hHeld, (bq BK794), (bq BK798), (bq BK804), (bq BK810), GW810.out, GE810.out, NB794_810.out, NB810_794.out, NB798_810.out, NB810_798.out, NB804_810.out, NB810_804.out, bz⟩)
                 · skip
                   refine box_step ?hg (N := 7) ?hd (cs := #[.int .i64 0, .int .u64 0]) (t := 24) ?hr ?_; (case hd => rfl); (case hg => rfl); (case hr => first | (go_simp; done) | (go_simp; rfl))
                   intro gb810 hg w45 hbox hb; have n0_ := am (bb BK794 hb); have n1_ := am (bb BK798 hb); have n2_ := am (bb BK804 hb); have n3_ := am (below_step bz hb); have n4_ := am (hbox); have n5_ := am ((by rw [hg]; exact (below_size bz) : w.heap.size ≤ gb810)); have n6_ := am ((by rw [hg]; exact (below_size bz) : w.heap.size ≤ gb810)); have n7_ := am ((by rw [hg]; exact Nat.ne_of_lt (bl BK794) : gb794 ≠ gb810)); have n8_ := am ((by rw [hg]; exact Nat.ne_of_gt (bl BK794) : gb810 ≠ gb794)); have n9_ := am ((by rw [hg]; exact Nat.ne_of_lt (bl BK798) : gb798 ≠ gb810)); have n10_ := am ((by rw [hg]; exact Nat.ne_of_gt (bl BK798) : gb810 ≠ gb798)); have n11_ := am ((by rw [hg]; exact Nat.ne_of_lt (bl BK804) : gb804 ≠ gb810)); have n12_ := am ((by rw [hg]; exact Nat.ne_of_gt (bl BK804) : gb810 ≠ gb804)); clear BK794 BK798 BK804 HB; have BK794 := n0_; have BK798 := n1_; have BK804 := n2_; have HB := n3_; have BK810 := n4_; have GW810 := n5_; have GE810 := n6_; have NB794_810 := n7_; have NB810_794 := n8_; have NB798_810 := n9_; have NB810_798 := n10_; have NB804_810 := n11_; have NB810_804 := n12_; clear n0_ n1_ n2_ n3_ n4_ n5_ n6_ n7_ n8_ n9_ n10_ n11_ n12_ hb hbox hg
                   refine hK.out _ _ ⟨(blk_cell BK798.out 0).trans rfl, (blk_cell BK798.out 1).trans rfl⟩ (fun hHeld => ?_)
                   clear hK K
                   refine norm_ (a' := ?_) ?_ ?_
                   rotate_left
                   · show Act.put _ (some 7) _ = _
                     simp only [Act.put, List.setIfInBounds_toArray, List.set_cons_zero, List.set_cons_succ, i64_w, i32_w]
                     rfl
                   refine one_ (i := 1) (N := some 32) #[true, true, false, false, false, false, true, false, false] rfl rfl (one_of HT_.out (by kernel_rfl)) (by decide) (fun K hK => ?_)
                   refine goes_ Tryd.func47 (by kernel_rfl) rfl #[.int .i64 1] (by rfl) rfl rfl (by (try simp only [List.map_toArray, List.map_cons, List.map_nil]); first | done | rfl | (simp only [List.length_drop, List.length_take]; rfl)) ?_
                   with_reducible refine (wide_Of.calls 1 t805 t806 _ A17.out).mono ?_
                   rintro e w46 ⟨rfl, hb⟩; refine ⟨_, rfl, ?_⟩; have n0_ := am (bb BK794 hb); have n1_ := am (bb BK798 hb); have n2_ := am (bb BK804 hb); have n3_ := am (bb BK810 hb); have n4_ := am (below_step bz hb); clear BK794 BK798 BK804 BK810 HB; have BK794 := n0_; have BK798 := n1_; have BK804 := n2_; have BK810 := n3_; have HB := n4_; clear n0_ n1_ n2_ n3_ n4_; (try clear hb); (try clear hb2); (try clear hk); (try clear hi)
                   refine hK.out _ _ ⟨(blk_cell BK798.out 0).trans rfl, (blk_cell BK798.out 1).trans rfl⟩ (fun hHeld => ?_)
                   clear hK K
                   refine norm_ (a' := ?_) ?_ ?_
                   rotate_left
                   · show Act.put _ (some 32) _ = _
                     simp only [Act.put, List.setIfInBounds_toArray, List.set_cons_zero, List.set_cons_succ, i64_w, i32_w]
                     rfl
                   refine one_ (i := 2) (N := some 33) #[true, true, true, false, false, false, true, false, false] rfl rfl (one_of HT_.out (by kernel_rfl)) (by decide) (fun K hK => ?_)
                   refine goes_ Tryd.func31 (by kernel_rfl) rfl #[.agg #[.int .i64 t795, .int .u64 t796], .agg #[.int .i64 t805, .int .u64 t806]] (by rfl) rfl rfl (by (try simp only [List.map_toArray, List.map_cons, List.map_nil]); first | done | rfl | (simp only [List.length_drop, List.length_take]; rfl)) ?_
                   with_reducible refine (wide_Add.calls t795 t796 t805 t806 t807 t808 t809 _ A18.out).mono ?_
                   rintro e w47 ⟨rfl, hb⟩; refine ⟨_, rfl, ?_⟩; have n0_ := am (bb BK794 hb); have n1_ := am (bb BK798 hb); have n2_ := am (bb BK804 hb); have n3_ := am (bb BK810 hb); have n4_ := am (below_step bz hb); clear BK794 BK798 BK804 BK810 HB; have BK794 := n0_; have BK798 := n1_; have BK804 := n2_; have BK810 := n3_; have HB := n4_; clear n0_ n1_ n2_ n3_ n4_; (try clear hb); (try clear hb2); (try clear hk); (try clear hi)
                   refine hK.out _ _ ⟨(blk_cell BK798.out 0).trans rfl, (blk_cell BK798.out 1).trans rfl⟩ (fun hHeld => ?_)
                   clear hK K
                   refine norm_ (a' := ?_) ?_ ?_
                   rotate_left
                   · show Act.put _ (some 33) _ = _
                     simp only [Act.put, List.setIfInBounds_toArray, List.set_cons_zero, List.set_cons_succ, i64_w, i32_w]
                     rfl
                   refine pure_ (i := 3) (N := some 30) (v := ?_) (a' := ?_) #[true, true, true, true, false, false, true, false, false] rfl rfl (any_of HT_.out (by kernel_rfl)) (fun _ _ _ h => h) (Or.inl ⟨by rfl, ?_⟩) ?_ ?_
                   rotate_left
                   · intro w'
                     go_simp
                     with_reducible rfl
                   rotate_left
                   · simp only [Act.put, List.setIfInBounds_toArray, List.set_cons_zero, List.set_cons_succ, i64_w, i32_w]
                     rfl
                   refine pure_ (i := 4) (N := some 34) (v := ?_) (a' := ?_) #[true, true, true, true, true, false, true, false, false] rfl rfl (any_of HT_.out (by kernel_rfl)) (fun _ _ _ h => h) (Or.inl ⟨by rfl, ?_⟩) ?_ ?_
                   rotate_left
                   · intro w'
                     go_simp
                     with_reducible rfl
                   rotate_left
                   · simp only [Act.put, List.setIfInBounds_toArray, List.set_cons_zero, List.set_cons_succ, i64_w, i32_w]
                     rfl
                   refine pure_ (i := 5) (N := some 35) (v := ?_) (a' := ?_) #[true, true, true, true, true, true, true, false, false] rfl rfl (any_of HT_.out (by kernel_rfl)) (fun _ _ _ h => h) (Or.inl ⟨by rfl, ?_⟩) ?_ ?_
                   rotate_left
                   · intro w'
                     go_simp
                     with_reducible rfl
                   rotate_left
                   · simp only [Act.put, List.setIfInBounds_toArray, List.set_cons_zero, List.set_cons_succ, i64_w, i32_w]
                     rfl
                   exact norm_ (by simp only [putAll, Act.put, List.setIfInBounds_toArray, List.set_cons_zero, List.set_cons_succ]) (hCont (gb810) _ ⟨hHeld, (bq BK794), (bq BK798), (bq BK804), (bq BK810), GW810.out, GE810.out, NB794_810.out, NB810_794.out, NB798_810.out, NB810_798.out, NB804_810.out, NB810_804.out, bz⟩)
               rintro gb810 w48 ⟨hS_, h0_, h1_, h2_, h3_, h4_, h5_, h6_, h7_, h8_, h9_, h10_, h11_, h12_⟩; have n0_ : Aside0 (w48.heap[gb794]? = some (.cells #[.int .i64 a0_0, .int .u64 a0_1] 24 (0, 0))) := ⟨h0_⟩; have n1_ : Aside0 (w48.heap[gb798]? = some (.cells #[.int .i64 t795, .int .u64 t796] 24 (0, 0))) := ⟨h1_⟩; have n2_ : Aside0 (w48.heap[gb804]? = some (.cells #[.int .i64 t801, .int .u64 t802] 24 (0, 0))) := ⟨h2_⟩; have n3_ : Aside0 (w48.heap[gb810]? = some (.cells #[.int .i64 0, .int .u64 0] 24 (0, 0))) := ⟨h3_⟩; have n4_ : Aside0 (w.heap.size ≤ gb810) := ⟨h4_⟩; have n5_ : Aside0 (w.heap.size ≤ gb810) := ⟨h5_⟩; have n6_ : Aside0 (gb794 ≠ gb810) := ⟨h6_⟩; have n7_ : Aside0 (gb810 ≠ gb794) := ⟨h7_⟩; have n8_ : Aside0 (gb798 ≠ gb810) := ⟨h8_⟩; have n9_ : Aside0 (gb810 ≠ gb798) := ⟨h9_⟩; have n10_ : Aside0 (gb804 ≠ gb810) := ⟨h10_⟩; have n11_ : Aside0 (gb810 ≠ gb804) := ⟨h11_⟩; have n12_ : Aside0 (Below w.heap.size w w48) := ⟨h12_⟩; clear BK794 BK798 BK804 HB h0_ h1_ h2_ h3_ h4_ h5_ h6_ h7_ h8_ h9_ h10_ h11_ h12_; have BK794 := n0_; have BK798 := n1_; have BK804 := n2_; have BK810 := n3_; have GW810 := n4_; have GE810 := n5_; have NB794_810 := n6_; have NB810_794 := n7_; have NB798_810 := n8_; have NB810_798 := n9_; have NB804_810 := n10_; have NB810_804 := n11_; have HB := n12_; clear n0_ n1_ n2_ n3_ n4_ n5_ n6_ n7_ n8_ n9_ n10_ n11_ n12_; have hHeld : w48.cell? ⟨gb798, 0, none⟩ = some (.int .i64 t795) ∧ w48.cell? ⟨gb798, 1, none⟩ = some (.int .u64 t796) := hS_
               refine norm_ (a' := ?_) ?_ ?_
               rotate_left
               · simp only [putAll, Act.put, List.setIfInBounds_toArray, List.set_cons_zero, List.set_cons_succ]
                 rfl
               refine one_ (i := 7) (N := none) #[true, true, true, true, true, true, true, true, false] rfl rfl (one_of HT_.out (by kernel_rfl)) (by decide) (fun K hK => ?_)
               have hs49 : w48.cell? ⟨gb810, 0, none⟩ = some (.int .i64 0) := (blk_cell BK810.out 0).trans rfl; have hfs49 := blk_frozen BK810.out 0; have hns49_0 := NB794_810.out; have hns49_1 := NB798_810.out; have hns49_2 := NB804_810.out; have hms49_0 := NB810_794.out; have hms49_1 := NB810_798.out; have hms49_2 := NB810_804.out; have hs50 : w48.cell? ⟨gb810, 1, none⟩ = some (.int .u64 0) := (blk_cell BK810.out 1).trans rfl; have hfs50 := blk_frozen BK810.out 1; have hns50_0 := NB794_810.out; have hns50_1 := NB798_810.out; have hns50_2 := NB804_810.out; have hms50_0 := NB810_794.out; have hms50_1 := NB810_798.out; have hms50_2 := NB810_804.out
               refine skip_ (w1 := ?_) (by rfl) rfl ?_ ?_
               rotate_left
               · go_simp
                 rfl
               refine hK.out _ _ ⟨((cell_far (p := ⟨gb810, _, none⟩) NB798_810.out _).trans (((cell_far (p := ⟨gb810, _, none⟩) NB798_810.out _).trans (hHeld.1)))), ((cell_far (p := ⟨gb810, _, none⟩) NB798_810.out _).trans (((cell_far (p := ⟨gb810, _, none⟩) NB798_810.out _).trans (hHeld.2))))⟩ (fun hHeld => ?_)
               clear hK K
               refine pure_ (i := 8) (N := some 8) (v := ?_) (a' := ?_) #[true, true, true, true, true, true, true, true, true] rfl rfl (any_of HT_.out (by kernel_rfl)) (fun _ _ _ h => h) (Or.inl ⟨by rfl, ?_⟩) ?_ ?_
               rotate_left
               · intro w'
                 go_simp
                 with_reducible rfl
               rotate_left
               · simp only [Act.put, List.setIfInBounds_toArray, List.set_cons_zero, List.set_cons_succ, i64_w, i32_w]
                 rfl
               refine done_ (done_of HT_.out (by kernel_rfl)) ?_
               have hnb51 := NB810_794.out; have hnc51 := NB794_810.out; have hnb52 := NB810_798.out; have hnc52 := NB798_810.out; have hnb53 := NB810_804.out; have hnc53 := NB804_810.out; have hcz54_0 : w48.cell? ⟨gb810, 0, none⟩ = some (.int .i64 0) := (blk_cell BK810.out 0).trans rfl; have hcz54_1 : w48.cell? ⟨gb810, 1, none⟩ = some (.int .u64 0) := (blk_cell BK810.out 1).trans rfl; have hfz54_0 := blk_frozen BK810.out 0; have hfz54_1 := blk_frozen BK810.out 1
               try go_wp2_with (first | ((with_reducible refine gate_callee (f := 27) rfl ?_); refine goesL_ (some 39) rfl rfl Tryd.func27 (by kernel_rfl) rfl #[.agg #[.int .i64 t807, .int .u64 t808], .agg #[.int .i64 t807, .int .u64 t808]] rfl (by (try simp only [List.map_toArray, List.map_cons, List.map_nil]); first | done | rfl | (simp only [List.length_drop, List.length_take]; rfl)) ?_; (with_reducible refine (wide_Mul.calls k t807 t808 t807 t808 t811 t812 t813 _ A19.out).mono ?_); rintro e w55 ⟨rfl, hb⟩; refine ⟨_, rfl, ?_⟩; have n0_ := am (blk_below (g := gb794) (o := .cells #[.int .i64 a0_0, .int .u64 a0_1] 24 (0, 0)) (by (with_reducible repeat (first | apply bA | apply bB | apply bC)); refine blk_far ?_ NB794_810.out _; (with_reducible repeat (first | apply bA | apply bB | apply bC)); refine blk_far ?_ NB794_810.out _; (with_reducible repeat (first | apply bA | apply bB | apply bC)); exact BK794.out) hb); have n1_ := am (blk_below (g := gb798) (o := .cells #[.int .i64 t795, .int .u64 t796] 24 (0, 0)) (by (with_reducible repeat (first | apply bA | apply bB | apply bC)); refine blk_far ?_ NB798_810.out _; (with_reducible repeat (first | apply bA | apply bB | apply bC)); refine blk_far ?_ NB798_810.out _; (with_reducible repeat (first | apply bA | apply bB | apply bC)); exact BK798.out) hb); have n2_ := am (blk_below (g := gb804) (o := .cells #[.int .i64 t801, .int .u64 t802] 24 (0, 0)) (by (with_reducible repeat (first | apply bA | apply bB | apply bC)); refine blk_far ?_ NB804_810.out _; (with_reducible repeat (first | apply bA | apply bB | apply bC)); refine blk_far ?_ NB804_810.out _; (with_reducible repeat (first | apply bA | apply bB | apply bC)); exact BK804.out) hb); have n3_ := am (blk_below (g := gb810) (o := .cells #[.int .i64 t807, .int .u64 t808] 24 (0, 0)) (by (with_reducible repeat (first | apply bA | apply bB | apply bC)); refine blk_put (cs := #[.int .i64 t807, .int .u64 0]) ?_ 1 _ rfl; (with_reducible repeat (first | apply bA | apply bB | apply bC)); refine blk_put (cs := #[.int .i64 0, .int .u64 0]) ?_ 0 _ rfl; (with_reducible repeat (first | apply bA | apply bB | apply bC)); exact BK810.out) hb); have n4_ := am (below_step bz hb); clear BK794; clear BK798; clear BK804; clear BK810; clear HB; have BK794 := n0_; have BK798 := n1_; have BK804 := n2_; have BK810 := n3_; have HB := n4_; clear n0_ n1_ n2_ n3_ n4_; (try clear hb); (try clear hb2); (try clear hk); (try clear hi)) | ((with_reducible refine gate_dst (N := 9) rfl ?_); refine box_event ?hg (N := 9) ?hd (cs := #[.int .i64 0, .int .u64 0]) (t := 24) ?hr ?_; (case hd => rfl); (case hg => rfl); (case hr => first | (go_simp; done) | (go_simp; rfl)); intro gb814 hg w56 hbox hb; have n0_ := am (bb BK794 hb); have n1_ := am (bb BK798 hb); have n2_ := am (bb BK804 hb); have n3_ := am (bb BK810 hb); have n4_ := am (below_step bz hb); have n5_ := am (hbox); have n6_ := am ((by rw [hg]; exact (below_size bz) : w.heap.size ≤ gb814)); have n7_ := am ((by rw [hg]; exact (below_size bz) : w.heap.size ≤ gb814)); have n8_ := am ((by rw [hg]; exact Nat.ne_of_lt (bl BK794) : gb794 ≠ gb814)); have n9_ := am ((by rw [hg]; exact Nat.ne_of_gt (bl BK794) : gb814 ≠ gb794)); have n10_ := am ((by rw [hg]; exact Nat.ne_of_lt (bl BK798) : gb798 ≠ gb814)); have n11_ := am ((by rw [hg]; exact Nat.ne_of_gt (bl BK798) : gb814 ≠ gb798)); have n12_ := am ((by rw [hg]; exact Nat.ne_of_lt (bl BK804) : gb804 ≠ gb814)); have n13_ := am ((by rw [hg]; exact Nat.ne_of_gt (bl BK804) : gb814 ≠ gb804)); have n14_ := am ((by rw [hg]; exact Nat.ne_of_lt (bl BK810) : gb810 ≠ gb814)); have n15_ := am ((by rw [hg]; exact Nat.ne_of_gt (bl BK810) : gb814 ≠ gb810)); clear BK794; clear BK798; clear BK804; clear BK810; clear HB; have BK794 := n0_; have BK798 := n1_; have BK804 := n2_; have BK810 := n3_; have HB := n4_; have BK814 := n5_; have GW814 := n6_; have GE814 := n7_; have NB794_814 := n8_; have NB814_794 := n9_; have NB798_814 := n10_; have NB814_798 := n11_; have NB804_814 := n12_; have NB814_804 := n13_; have NB810_814 := n14_; have NB814_810 := n15_; clear n0_ n1_ n2_ n3_ n4_ n5_ n6_ n7_ n8_ n9_ n10_ n11_ n12_ n13_ n14_ n15_; clear hb hbox hg; have hnb57 := NB814_794.out; have hnc57 := NB794_814.out; have hnb58 := NB814_798.out; have hnc58 := NB798_814.out; have hnb59 := NB814_804.out; have hnc59 := NB804_814.out; have hnb60 := NB814_810.out; have hnc60 := NB810_814.out; have hcz61_0 : w56.cell? ⟨gb814, 0, none⟩ = some (.int .i64 0) := (blk_cell BK814.out 0).trans rfl; have hcz61_1 : w56.cell? ⟨gb814, 1, none⟩ = some (.int .u64 0) := (blk_cell BK814.out 1).trans rfl; have hfz61_0 := blk_frozen BK814.out 0; have hfz61_1 := blk_frozen BK814.out 1; have hcz62_0 : w56.cell? ⟨gb798, 0, none⟩ = some (.int .i64 t795) := (blk_cell BK798.out 0).trans rfl; have hcz62_1 : w56.cell? ⟨gb798, 1, none⟩ = some (.int .u64 t796) := (blk_cell BK798.out 1).trans rfl; have hfz62_0 := blk_frozen BK798.out 0; have hfz62_1 := blk_frozen BK798.out 1) | (go_at_call 50; (with_reducible refine (wide_Sign.calls t795 t796 t815 _ A23.out).mono ?_); rintro e w63 ⟨rfl, hb⟩; have n0_ := am (blk_below (g := gb794) (o := .cells #[.int .i64 a0_0, .int .u64 a0_1] 24 (0, 0)) (by (with_reducible repeat (first | apply bA | apply bB | apply bC)); refine blk_far ?_ NB794_814.out _; (with_reducible repeat (first | apply bA | apply bB | apply bC)); refine blk_far ?_ NB794_814.out _; (with_reducible repeat (first | apply bA | apply bB | apply bC)); exact BK794.out) hb); have n1_ := am (blk_below (g := gb798) (o := .cells #[.int .i64 t795, .int .u64 t796] 24 (0, 0)) (by (with_reducible repeat (first | apply bA | apply bB | apply bC)); refine blk_far ?_ NB798_814.out _; (with_reducible repeat (first | apply bA | apply bB | apply bC)); refine blk_far ?_ NB798_814.out _; (with_reducible repeat (first | apply bA | apply bB | apply bC)); exact BK798.out) hb); have n2_ := am (blk_below (g := gb804) (o := .cells #[.int .i64 t801, .int .u64 t802] 24 (0, 0)) (by (with_reducible repeat (first | apply bA | apply bB | apply bC)); refine blk_far ?_ NB804_814.out _; (with_reducible repeat (first | apply bA | apply bB | apply bC)); refine blk_far ?_ NB804_814.out _; (with_reducible repeat (first | apply bA | apply bB | apply bC)); exact BK804.out) hb); have n3_ := am (blk_below (g := gb810) (o := .cells #[.int .i64 t807, .int .u64 t808] 24 (0, 0)) (by (with_reducible repeat (first | apply bA | apply bB | apply bC)); refine blk_far ?_ NB810_814.out _; (with_reducible repeat (first | apply bA | apply bB | apply bC)); refine blk_far ?_ NB810_814.out _; (with_reducible repeat (first | apply bA | apply bB | apply bC)); exact BK810.out) hb); have n4_ := am (blk_below (g := gb814) (o := .cells #[.int .i64 t811, .int .u64 t812] 24 (0, 0)) (by (with_reducible repeat (first | apply bA | apply bB | apply bC)); refine blk_put (cs := #[.int .i64 t811, .int .u64 0]) ?_ 1 _ rfl; (with_reducible repeat (first | apply bA | apply bB | apply bC)); refine blk_put (cs := #[.int .i64 0, .int .u64 0]) ?_ 0 _ rfl; (with_reducible repeat (first | apply bA | apply bB | apply bC)); exact BK814.out) hb); have n5_ := am (below_step bz hb); clear BK794; clear BK798; clear BK804; clear BK810; clear BK814; clear HB; have BK794 := n0_; have BK798 := n1_; have BK804 := n2_; have BK810 := n3_; have BK814 := n4_; have HB := n5_; clear n0_ n1_ n2_ n3_ n4_ n5_; (try clear hb); (try clear hb2); (try clear hk); (try clear hi); have hcz64_0 : w63.cell? ⟨gb804, 0, none⟩ = some (.int .i64 t801) := (blk_cell BK804.out 0).trans rfl; have hcz64_1 : w63.cell? ⟨gb804, 1, none⟩ = some (.int .u64 t802) := (blk_cell BK804.out 1).trans rfl; have hfz64_0 := blk_frozen BK804.out 0; have hfz64_1 := blk_frozen BK804.out 1; have hcz65_0 : w63.cell? ⟨gb794, 0, none⟩ = some (.int .i64 a0_0) := (blk_cell BK794.out 0).trans rfl; have hcz65_1 : w63.cell? ⟨gb794, 1, none⟩ = some (.int .u64 a0_1) := (blk_cell BK794.out 1).trans rfl; have hfz65_0 := blk_frozen BK794.out 0; have hfz65_1 := blk_frozen BK794.out 1) | (go_at_call 30; (with_reducible refine (wide_Cmp.calls t801 t802 a0_0 a0_1 t816 _ A25.out).mono ?_); rintro e w66 ⟨rfl, hb⟩; have n0_ := am (bb BK794 hb); have n1_ := am (bb BK798 hb); have n2_ := am (bb BK804 hb); have n3_ := am (bb BK810 hb); have n4_ := am (bb BK814 hb); have n5_ := am (below_step bz hb); clear BK794; clear BK798; clear BK804; clear BK810; clear BK814; clear HB; have BK794 := n0_; have BK798 := n1_; have BK804 := n2_; have BK810 := n3_; have BK814 := n4_; have HB := n5_; clear n0_ n1_ n2_ n3_ n4_ n5_; (try clear hb); (try clear hb2); (try clear hk); (try clear hi)) | (go_at_call 29; (with_reducible refine (tumblerlaw01_alive.calls k  t817 _ (tN hT) A28.out).mono ?_); rintro e w67 ⟨rfl, hb⟩; have n0_ := am (bb BK794 hb); have n1_ := am (bb BK798 hb); have n2_ := am (bb BK804 hb); have n3_ := am (bb BK810 hb); have n4_ := am (bb BK814 hb); have n5_ := am (below_step bz hb); clear BK794; clear BK798; clear BK804; clear BK810; clear BK814; clear HB; have BK794 := n0_; have BK798 := n1_; have BK804 := n2_; have BK810 := n3_; have BK814 := n4_; have HB := n5_; clear n0_ n1_ n2_ n3_ n4_ n5_; (try clear hb); (try clear hb2); (try clear hk); (try clear hi)))
               go_ret
               exact ⟨by first | rfl | (simp [errW_none, errW_some] <;> rfl) | (simp [*, errW_none, errW_some] <;> rfl), by repeat (first | (with_reducible first | exact HB.out | apply dA | apply dB | apply dC | refine dE ?_ ‹_›) | exact HB.out)⟩
             · rw [if_neg c27] at H
               have c27b0 : (t813 == 10) = false := beq_eq_false_iff_ne.mpr c27; have c27b1 : (t813 != 10) = true := bne_iff_ne.mpr c27
               replace H := Option.bind_eq_some_iff.mp H
               obtain ⟨t818, A680, H⟩ := H
               replace H : (if t818 > 0 then ((tumblerlaw01_alive.f k).bind fun t819 => (some t819)) else (some false)) = some r := H
               have A68 := Aside0.mk A680; clear A680
               by_cases c69 : t818 > 0
               · rw [if_pos c69] at H
                 have c69b0 : decide (0 < t818) = true := decide_eq_true c69; clear c69
                 replace H := Option.bind_eq_some_iff.mp H
                 obtain ⟨t819, A700, H⟩ := H
                 replace H : (some t819) = some r := H
                 have A70 := Aside0.mk A700; clear A700
                 obtain rfl := Option.some.inj H
                 go_enter Tryd.func13, Tryd.ntmps13
                 try go_wp2_with (first | ((with_reducible refine gate_dst (N := 1) rfl ?_); refine box_event ?hg (N := 1) ?hd (cs := #[.int .i64 a0_0, .int .u64 a0_1]) (t := 24) ?hr ?_; (case hd => rfl); (case hg => rfl); (case hr => first | (go_simp; done) | (go_simp; rfl)); intro gb794 hg w71 hbox hb; have n0_ := am (below_step bz hb); have n1_ := am (hbox); have n2_ := am ((by rw [hg]; exact (below_size bz) : w.heap.size ≤ gb794)); have n3_ := am ((by rw [hg]; exact (below_size bz) : w.heap.size ≤ gb794)); clear HB; have HB := n0_; have BK794 := n1_; have GW794 := n2_; have GE794 := n3_; clear n0_ n1_ n2_ n3_; clear hb hbox hg; have hcz72_0 : w71.cell? ⟨gb794, 0, none⟩ = some (.int .i64 a0_0) := (blk_cell BK794.out 0).trans rfl; have hcz72_1 : w71.cell? ⟨gb794, 1, none⟩ = some (.int .u64 a0_1) := (blk_cell BK794.out 1).trans rfl; have hfz72_0 := blk_frozen BK794.out 0; have hfz72_1 := blk_frozen BK794.out 1) | ((with_reducible refine gate_callee (f := 36) rfl ?_); refine goesL_ (some 13) rfl rfl Tryd.func36 (by kernel_rfl) rfl #[.agg #[.int .i64 a0_0, .int .u64 a0_1]] rfl (by (try simp only [List.map_toArray, List.map_cons, List.map_nil]); first | done | rfl | (simp only [List.length_drop, List.length_take]; rfl)) ?_; (with_reducible refine (wide_Root.calls k a0_0 a0_1 t795 t796 t797 _ A2.out).mono ?_); rintro e w73 ⟨rfl, hb⟩; refine ⟨_, rfl, ?_⟩; have n0_ := am (bb BK794 hb); have n1_ := am (below_step bz hb); clear BK794; clear HB; have BK794 := n0_; have HB := n1_; clear n0_ n1_; (try clear hb); (try clear hb2); (try clear hk); (try clear hi)) | ((with_reducible refine gate_dst (N := 3) rfl ?_); refine box_event ?hg (N := 3) ?hd (cs := #[.int .i64 0, .int .u64 0]) (t := 24) ?hr ?_; (case hd => rfl); (case hg => rfl); (case hr => first | (go_simp; done) | (go_simp; rfl)); intro gb798 hg w74 hbox hb; have n0_ := am (bb BK794 hb); have n1_ := am (below_step bz hb); have n2_ := am (hbox); have n3_ := am ((by rw [hg]; exact (below_size bz) : w.heap.size ≤ gb798)); have n4_ := am ((by rw [hg]; exact (below_size bz) : w.heap.size ≤ gb798)); have n5_ := am ((by rw [hg]; exact Nat.ne_of_lt (bl BK794) : gb794 ≠ gb798)); have n6_ := am ((by rw [hg]; exact Nat.ne_of_gt (bl BK794) : gb798 ≠ gb794)); clear BK794; clear HB; have BK794 := n0_; have HB := n1_; have BK798 := n2_; have GW798 := n3_; have GE798 := n4_; have NB794_798 := n5_; have NB798_794 := n6_; clear n0_ n1_ n2_ n3_ n4_ n5_ n6_; clear hb hbox hg; have hnb75 := NB798_794.out; have hnc75 := NB794_798.out; have hcz76_0 : w74.cell? ⟨gb798, 0, none⟩ = some (.int .i64 0) := (blk_cell BK798.out 0).trans rfl; have hcz76_1 : w74.cell? ⟨gb798, 1, none⟩ = some (.int .u64 0) := (blk_cell BK798.out 1).trans rfl; have hfz76_0 := blk_frozen BK798.out 0; have hfz76_1 := blk_frozen BK798.out 1; have hcz77_0 : w74.cell? ⟨gb794, 0, none⟩ = some (.int .i64 a0_0) := (blk_cell BK794.out 0).trans rfl; have hcz77_1 : w74.cell? ⟨gb794, 1, none⟩ = some (.int .u64 a0_1) := (blk_cell BK794.out 1).trans rfl; have hfz77_0 := blk_frozen BK794.out 0; have hfz77_1 := blk_frozen BK794.out 1) | ((with_reducible refine gate_callee (f := 50) rfl ?_); refine goesL_ (some 17) rfl rfl Tryd.func50 (by kernel_rfl) rfl #[.agg #[.int .i64 a0_0, .int .u64 a0_1]] rfl (by (try simp only [List.map_toArray, List.map_cons, List.map_nil]); first | done | rfl | (simp only [List.length_drop, List.length_take]; rfl)) ?_; (with_reducible refine (wide_Sign.calls a0_0 a0_1 t799 _ A3.out).mono ?_); rintro e w78 ⟨rfl, hb⟩; refine ⟨_, rfl, ?_⟩; have n0_ := am (blk_below (g := gb794) (o := .cells #[.int .i64 a0_0, .int .u64 a0_1] 24 (0, 0)) (by (with_reducible repeat (first | apply bA | apply bB | apply bC)); refine blk_far ?_ NB794_798.out _; (with_reducible repeat (first | apply bA | apply bB | apply bC)); refine blk_far ?_ NB794_798.out _; (with_reducible repeat (first | apply bA | apply bB | apply bC)); exact BK794.out) hb); have n1_ := am (blk_below (g := gb798) (o := .cells #[.int .i64 t795, .int .u64 t796] 24 (0, 0)) (by (with_reducible repeat (first | apply bA | apply bB | apply bC)); refine blk_put (cs := #[.int .i64 t795, .int .u64 0]) ?_ 1 _ rfl; (with_reducible repeat (first | apply bA | apply bB | apply bC)); refine blk_put (cs := #[.int .i64 0, .int .u64 0]) ?_ 0 _ rfl; (with_reducible repeat (first | apply bA | apply bB | apply bC)); exact BK798.out) hb); have n2_ := am (below_step bz hb); clear BK794; clear BK798; clear HB; have BK794 := n0_; have BK798 := n1_; have HB := n2_; clear n0_ n1_ n2_; (try clear hb); (try clear hb2); (try clear hk); (try clear hi); have hcz79_0 : w78.cell? ⟨gb798, 0, none⟩ = some (.int .i64 t795) := (blk_cell BK798.out 0).trans rfl; have hcz79_1 : w78.cell? ⟨gb798, 1, none⟩ = some (.int .u64 t796) := (blk_cell BK798.out 1).trans rfl; have hfz79_0 := blk_frozen BK798.out 0; have hfz79_1 := blk_frozen BK798.out 1) | ((with_reducible refine gate_callee (f := 27) rfl ?_); refine goesL_ (some 27) rfl rfl Tryd.func27 (by kernel_rfl) rfl #[.agg #[.int .i64 t795, .int .u64 t796], .agg #[.int .i64 t795, .int .u64 t796]] rfl (by (try simp only [List.map_toArray, List.map_cons, List.map_nil]); first | done | rfl | (simp only [List.length_drop, List.length_take]; rfl)) ?_; (with_reducible refine (wide_Mul.calls k t795 t796 t795 t796 t801 t802 t803 _ A16.out).mono ?_); rintro e w80 ⟨rfl, hb⟩; refine ⟨_, rfl, ?_⟩; have n0_ := am (bb BK794 hb); have n1_ := am (bb BK798 hb); have n2_ := am (below_step bz hb); clear BK794; clear BK798; clear HB; have BK794 := n0_; have BK798 := n1_; have HB := n2_; clear n0_ n1_ n2_; (try clear hb); (try clear hb2); (try clear hk); (try clear hi)) | ((with_reducible refine gate_dst (N := 5) rfl ?_); refine box_event ?hg (N := 5) ?hd (cs := #[.int .i64 0, .int .u64 0]) (t := 24) ?hr ?_; (case hd => rfl); (case hg => rfl); (case hr => first | (go_simp; done) | (go_simp; rfl)); intro gb804 hg w81 hbox hb; have n0_ := am (bb BK794 hb); have n1_ := am (bb BK798 hb); have n2_ := am (below_step bz hb); have n3_ := am (hbox); have n4_ := am ((by rw [hg]; exact (below_size bz) : w.heap.size ≤ gb804)); have n5_ := am ((by rw [hg]; exact (below_size bz) : w.heap.size ≤ gb804)); have n6_ := am ((by rw [hg]; exact Nat.ne_of_lt (bl BK794) : gb794 ≠ gb804)); have n7_ := am ((by rw [hg]; exact Nat.ne_of_gt (bl BK794) : gb804 ≠ gb794)); have n8_ := am ((by rw [hg]; exact Nat.ne_of_lt (bl BK798) : gb798 ≠ gb804)); have n9_ := am ((by rw [hg]; exact Nat.ne_of_gt (bl BK798) : gb804 ≠ gb798)); clear BK794; clear BK798; clear HB; have BK794 := n0_; have BK798 := n1_; have HB := n2_; have BK804 := n3_; have GW804 := n4_; have GE804 := n5_; have NB794_804 := n6_; have NB804_794 := n7_; have NB798_804 := n8_; have NB804_798 := n9_; clear n0_ n1_ n2_ n3_ n4_ n5_ n6_ n7_ n8_ n9_; clear hb hbox hg; have hnb82 := NB804_794.out; have hnc82 := NB794_804.out; have hnb83 := NB804_798.out; have hnc83 := NB798_804.out; have hcz84_0 : w81.cell? ⟨gb804, 0, none⟩ = some (.int .i64 0) := (blk_cell BK804.out 0).trans rfl; have hcz84_1 : w81.cell? ⟨gb804, 1, none⟩ = some (.int .u64 0) := (blk_cell BK804.out 1).trans rfl; have hfz84_0 := blk_frozen BK804.out 0; have hfz84_1 := blk_frozen BK804.out 1))
                 have n0_ : Aside0 (((w81.setCell ⟨gb804, 0, none⟩ (.int .i64 t801)).setCell ⟨gb804, 1, none⟩ (.int .u64 t802)).heap[gb794]? = some (.cells #[.int .i64 a0_0, .int .u64 a0_1] 24 (0, 0))) := ⟨by (with_reducible repeat (first | apply bA | apply bB | apply bC)); refine blk_far ?_ NB794_804.out _; (with_reducible repeat (first | apply bA | apply bB | apply bC)); refine blk_far ?_ NB794_804.out _; (with_reducible repeat (first | apply bA | apply bB | apply bC)); exact BK794.out⟩; have n1_ : Aside0 (((w81.setCell ⟨gb804, 0, none⟩ (.int .i64 t801)).setCell ⟨gb804, 1, none⟩ (.int .u64 t802)).heap[gb798]? = some (.cells #[.int .i64 t795, .int .u64 t796] 24 (0, 0))) := ⟨by (with_reducible repeat (first | apply bA | apply bB | apply bC)); refine blk_far ?_ NB798_804.out _; (with_reducible repeat (first | apply bA | apply bB | apply bC)); refine blk_far ?_ NB798_804.out _; (with_reducible repeat (first | apply bA | apply bB | apply bC)); exact BK798.out⟩; have n2_ : Aside0 (((w81.setCell ⟨gb804, 0, none⟩ (.int .i64 t801)).setCell ⟨gb804, 1, none⟩ (.int .u64 t802)).heap[gb804]? = some (.cells #[.int .i64 t801, .int .u64 t802] 24 (0, 0))) := ⟨by (with_reducible repeat (first | apply bA | apply bB | apply bC)); refine blk_put (cs := #[.int .i64 t801, .int .u64 0]) ?_ 1 _ rfl; (with_reducible repeat (first | apply bA | apply bB | apply bC)); refine blk_put (cs := #[.int .i64 0, .int .u64 0]) ?_ 0 _ rfl; (with_reducible repeat (first | apply bA | apply bB | apply bC)); exact BK804.out⟩; have n3_ : Aside0 (Below w.heap.size w ((w81.setCell ⟨gb804, 0, none⟩ (.int .i64 t801)).setCell ⟨gb804, 1, none⟩ (.int .u64 t802))) := ⟨by repeat (first | (with_reducible first | exact HB.out | apply dA | apply dB | apply dC | refine dE ?_ ‹_›) | exact HB.out)⟩; (try clear BK794); (try clear BK798); (try clear BK804); (try clear HB); generalize ((w81.setCell ⟨gb804, 0, none⟩ (.int .i64 t801)).setCell ⟨gb804, 1, none⟩ (.int .u64 t802)) = w85 at n0_ n1_ n2_ n3_ ⊢; have BK794 := n0_; have BK798 := n1_; have BK804 := n2_; have HB := n3_; clear n0_ n1_ n2_ n3_; have n0_ := am (blk_drew BK794.out); have n1_ := am (blk_drew BK798.out); have n2_ := am (blk_drew BK804.out); have n3_ := am (below_drew1 HB.out); clear BK794 BK798 BK804 HB; have BK794 := n0_; have BK798 := n1_; have BK804 := n2_; have HB := n3_; clear n0_ n1_ n2_ n3_
                 refine start_ (n := 9) (S := fun w' => w'.cell? ⟨gb798, 0, none⟩ = some (.int .i64 t795) ∧ w'.cell? ⟨gb798, 1, none⟩ = some (.int .u64 t796)) (ds := []) #[false, false, false, false, false, false, false, false, false] (by kernel_rfl) rfl rfl ⟨(blk_cell BK798.out 0).trans rfl, (blk_cell BK798.out 1).trans rfl⟩ (fun hHeld => ?_); refine with_tabW tumblerlaw01_WideSquares.tab5 tumblerlaw01_WideSquares.bits5 (fun HT_ HW_ => ?_)
                 generalize w85.drew = w86 at BK794 BK798 BK804 HB hHeld ⊢
                 refine take_ (i := 0) (N := some 31) (v := ?_) (a' := ?_) #[true, false, false, false, false, false, false, false, false] rfl rfl (take_ofW HT_.out HW_.out (by kernel_rfl)) (fun _ _ _ h => h) (Or.inl ⟨by rfl, ?_⟩) hHeld ?_ ?_
                 rotate_left
                 · rintro w' ⟨s0, s1⟩
                   go_simp
                   with_reducible rfl
                 rotate_left
                 · simp only [Act.put, List.setIfInBounds_toArray, List.set_cons_zero, List.set_cons_succ, i64_w, i32_w]
                   rfl
                 refine join_ (σ := Nat) 2 #[true, true, true, true, true, true, true, false, false] (fun s_ => [(32, .agg #[.int .i64 t805, .int .u64 t806]), (33, .tuple #[.agg #[.int .i64 t807, .int .u64 t808], .int .i64 t809]), (7, .pointer (some ⟨s_, 0, none⟩)), (30, .tuple #[.agg #[.int .i64 t807, .int .u64 t808], .int .i64 t809]), (34, .agg #[.int .i64 t807, .int .u64 t808]), (35, .int .i64 t809)]) (fun s_ w' => (w'.cell? ⟨gb798, 0, none⟩ = some (.int .i64 t795) ∧ w'.cell? ⟨gb798, 1, none⟩ = some (.int .u64 t796)) ∧ (w'.heap[gb794]? = some (.cells #[.int .i64 a0_0, .int .u64 a0_1] 24 (0, 0))) ∧ (w'.heap[gb798]? = some (.cells #[.int .i64 t795, .int .u64 t796] 24 (0, 0))) ∧ (w'.heap[gb804]? = some (.cells #[.int .i64 t801, .int .u64 t802] 24 (0, 0))) ∧ (w'.heap[s_]? = some (.cells #[.int .i64 0, .int .u64 0] 24 (0, 0))) ∧ (w.heap.size ≤ s_) ∧ (w.heap.size ≤ s_) ∧ (gb794 ≠ s_) ∧ (s_ ≠ gb794) ∧ (gb798 ≠ s_) ∧ (s_ ≠ gb798) ∧ (gb804 ≠ s_) ∧ (s_ ≠ gb804) ∧ (Below w.heap.size w w')) ?_ ?_
                 rotate_left
                 · intro hCont
                   refine two_ (i := 1) (j := 6) (Ni := some 32) (Nj := some 7) #[true, true, false, false, false, false, false, false, false] #[true, false, false, false, false, false, true, false, false] rfl rfl rfl rfl (two_of HT_.out (by kernel_rfl)) (by decide) (by decide) (fun K hK => ?_) (fun K hK => ?_)
                   · skip
                     refine goes_ Tryd.func47 (by kernel_rfl) rfl #[.int .i64 1] (by rfl) rfl rfl (by (try simp only [List.map_toArray, List.map_cons, List.map_nil]); first | done | rfl | (simp only [List.length_drop, List.length_take]; rfl)) ?_
                     with_reducible refine (wide_Of.calls 1 t805 t806 _ A17.out).mono ?_
                     rintro e w87 ⟨rfl, hb⟩; refine ⟨_, rfl, ?_⟩; have n0_ := am (bb BK794 hb); have n1_ := am (bb BK798 hb); have n2_ := am (bb BK804 hb); have n3_ := am (below_step bz hb); clear BK794 BK798 BK804 HB; have BK794 := n0_; have BK798 := n1_; have BK804 := n2_; have HB := n3_; clear n0_ n1_ n2_ n3_; (try clear hb); (try clear hb2); (try clear hk); (try clear hi)
                     refine hK.out _ _ ⟨(blk_cell BK798.out 0).trans rfl, (blk_cell BK798.out 1).trans rfl⟩ (fun hHeld => ?_)
                     clear hK K
                     refine norm_ (a' := ?_) ?_ ?_
                     rotate_left
                     · show Act.put _ (some 32) _ = _
                       simp only [Act.put, List.setIfInBounds_toArray, List.set_cons_zero, List.set_cons_succ, i64_w, i32_w]
                       rfl
                     refine two_ (i := 2) (j := 6) (Ni := some 33) (Nj := some 7) #[true, true, true, false, false, false, false, false, false] #[true, true, false, false, false, false, true, false, false] rfl rfl rfl rfl (two_of HT_.out (by kernel_rfl)) (by decide) (by decide) (fun K hK => ?_) (fun K hK => ?_)
                     · skip
                       refine goes_ Tryd.func31 (by kernel_rfl) rfl #[.agg #[.int .i64 t795, .int .u64 t796], .agg #[.int .i64 t805, .int .u64 t806]] (by rfl) rfl rfl (by (try simp only [List.map_toArray, List.map_cons, List.map_nil]); first | done | rfl | (simp only [List.length_drop, List.length_take]; rfl)) ?_
                       with_reducible refine (wide_Add.calls t795 t796 t805 t806 t807 t808 t809 _ A18.out).mono ?_
                       rintro e w88 ⟨rfl, hb⟩; refine ⟨_, rfl, ?_⟩; have n0_ := am (bb BK794 hb); have n1_ := am (bb BK798 hb); have n2_ := am (bb BK804 hb); have n3_ := am (below_step bz hb); clear BK794 BK798 BK804 HB; have BK794 := n0_; have BK798 := n1_; have BK804 := n2_; have HB := n3_; clear n0_ n1_ n2_ n3_; (try clear hb); (try clear hb2); (try clear hk); (try clear hi)
                       refine hK.out _ _ ⟨(blk_cell BK798.out 0).trans rfl, (blk_cell BK798.out 1).trans rfl⟩ (fun hHeld => ?_)
                       clear hK K
                       refine norm_ (a' := ?_) ?_ ?_
                       rotate_left
                       · show Act.put _ (some 33) _ = _
                         simp only [Act.put, List.setIfInBounds_toArray, List.set_cons_zero, List.set_cons_succ, i64_w, i32_w]
                         rfl
                       refine pure_ (i := 3) (N := some 30) (v := ?_) (a' := ?_) #[true, true, true, true, false, false, false, false, false] rfl rfl (any_of HT_.out (by kernel_rfl)) (fun _ _ _ h => h) (Or.inl ⟨by rfl, ?_⟩) ?_ ?_
                       rotate_left
                       · intro w'
                         go_simp
                         with_reducible rfl
                       rotate_left
                       · simp only [Act.put, List.setIfInBounds_toArray, List.set_cons_zero, List.set_cons_succ, i64_w, i32_w]
                         rfl
                       refine pure_ (i := 4) (N := some 34) (v := ?_) (a' := ?_) #[true, true, true, true, true, false, false, false, false] rfl rfl (any_of HT_.out (by kernel_rfl)) (fun _ _ _ h => h) (Or.inl ⟨by rfl, ?_⟩) ?_ ?_
                       rotate_left
                       · intro w'
                         go_simp
                         with_reducible rfl
                       rotate_left
                       · simp only [Act.put, List.setIfInBounds_toArray, List.set_cons_zero, List.set_cons_succ, i64_w, i32_w]
                         rfl
                       refine pure_ (i := 5) (N := some 35) (v := ?_) (a' := ?_) #[true, true, true, true, true, true, false, false, false] rfl rfl (any_of HT_.out (by kernel_rfl)) (fun _ _ _ h => h) (Or.inl ⟨by rfl, ?_⟩) ?_ ?_
                       rotate_left
                       · intro w'
                         go_simp
                         with_reducible rfl
                       rotate_left
                       · simp only [Act.put, List.setIfInBounds_toArray, List.set_cons_zero, List.set_cons_succ, i64_w, i32_w]
                         rfl
                       refine one_ (i := 6) (N := some 7) #[true, true, true, true, true, true, true, false, false] rfl rfl (one_of HT_.out (by kernel_rfl)) (by decide) (fun K hK => ?_)
                       refine box_step ?hg (N := 7) ?hd (cs := #[.int .i64 0, .int .u64 0]) (t := 24) ?hr ?_; (case hd => rfl); (case hg => rfl); (case hr => first | (go_simp; done) | (go_simp; rfl))
                       intro gb810 hg w89 hbox hb; have n0_ := am (bb BK794 hb); have n1_ := am (bb BK798 hb); have n2_ := am (bb BK804 hb); have n3_ := am (below_step bz hb); have n4_ := am (hbox); have n5_ := am ((by rw [hg]; exact (below_size bz) : w.heap.size ≤ gb810)); have n6_ := am ((by rw [hg]; exact (below_size bz) : w.heap.size ≤ gb810)); have n7_ := am ((by rw [hg]; exact Nat.ne_of_lt (bl BK794) : gb794 ≠ gb810)); have n8_ := am ((by rw [hg]; exact Nat.ne_of_gt (bl BK794) : gb810 ≠ gb794)); have n9_ := am ((by rw [hg]; exact Nat.ne_of_lt (bl BK798) : gb798 ≠ gb810)); have n10_ := am ((by rw [hg]; exact Nat.ne_of_gt (bl BK798) : gb810 ≠ gb798)); have n11_ := am ((by rw [hg]; exact Nat.ne_of_lt (bl BK804) : gb804 ≠ gb810)); have n12_ := am ((by rw [hg]; exact Nat.ne_of_gt (bl BK804) : gb810 ≠ gb804)); clear BK794 BK798 BK804 HB; have BK794 := n0_; have BK798 := n1_; have BK804 := n2_; have HB := n3_; have BK810 := n4_; have GW810 := n5_; have GE810 := n6_; have NB794_810 := n7_; have NB810_794 := n8_; have NB798_810 := n9_; have NB810_798 := n10_; have NB804_810 := n11_; have NB810_804 := n12_; clear n0_ n1_ n2_ n3_ n4_ n5_ n6_ n7_ n8_ n9_ n10_ n11_ n12_ hb hbox hg
                       refine hK.out _ _ ⟨(blk_cell BK798.out 0).trans rfl, (blk_cell BK798.out 1).trans rfl⟩ (fun hHeld => ?_)
                       clear hK K
                       refine norm_ (a' := ?_) ?_ ?_
                       rotate_left
                       · show Act.put _ (some 7) _ = _
                         simp only [Act.put, List.setIfInBounds_toArray, List.set_cons_zero, List.set_cons_succ, i64_w, i32_w]
                         rfl
                       exact norm_ (by simp only [putAll, Act.put, List.setIfInBounds_toArray, List.set_cons_zero, List.set_cons_succ]) (hCont (gb810) _ ⟨hHeld, (bq BK794), (bq BK798), (bq BK804), (bq BK810), GW810.out, GE810.out, NB794_810.out, NB810_794.out, NB798_810.out, NB810_798.out, NB804_810.out, NB810_804.out, bz⟩)
                     · skip
                       refine box_step ?hg (N := 7) ?hd (cs := #[.int .i64 0, .int .u64 0]) (t := 24) ?hr ?_; (case hd => rfl); (case hg => rfl); (case hr => first | (go_simp; done) | (go_simp; rfl))
                       intro gb810 hg w88 hbox hb; have n0_ := am (bb BK794 hb); have n1_ := am (bb BK798 hb); have n2_ := am (bb BK804 hb); have n3_ := am (below_step bz hb); have n4_ := am (hbox); have n5_ := am ((by rw [hg]; exact (below_size bz) : w.heap.size ≤ gb810)); have n6_ := am ((by rw [hg]; exact (below_size bz) : w.heap.size ≤ gb810)); have n7_ := am ((by rw [hg]; exact Nat.ne_of_lt (bl BK794) : gb794 ≠ gb810)); have n8_ := am ((by rw [hg]; exact Nat.ne_of_gt (bl BK794) : gb810 ≠ gb794)); have n9_ := am ((by rw [hg]; exact Nat.ne_of_lt (bl BK798) : gb798 ≠ gb810)); have n10_ := am ((by rw [hg]; exact Nat.ne_of_gt (bl BK798) : gb810 ≠ gb798)); have n11_ := am ((by rw [hg]; exact Nat.ne_of_lt (bl BK804) : gb804 ≠ gb810)); have n12_ := am ((by rw [hg]; exact Nat.ne_of_gt (bl BK804) : gb810 ≠ gb804)); clear BK794 BK798 BK804 HB; have BK794 := n0_; have BK798 := n1_; have BK804 := n2_; have HB := n3_; have BK810 := n4_; have GW810 := n5_; have GE810 := n6_; have NB794_810 := n7_; have NB810_794 := n8_; have NB798_810 := n9_; have NB810_798 := n10_; have NB804_810 := n11_; have NB810_804 := n12_; clear n0_ n1_ n2_ n3_ n4_ n5_ n6_ n7_ n8_ n9_ n10_ n11_ n12_ hb hbox hg
                       refine hK.out _ _ ⟨(blk_cell BK798.out 0).trans rfl, (blk_cell BK798.out 1).trans rfl⟩ (fun hHeld => ?_)
                       clear hK K
                       refine norm_ (a' := ?_) ?_ ?_
                       rotate_left
                       · show Act.put _ (some 7) _ = _
                         simp only [Act.put, List.setIfInBounds_toArray, List.set_cons_zero, List.set_cons_succ, i64_w, i32_w]
                         rfl
                       refine one_ (i := 2) (N := some 33) #[true, true, true, false, false, false, true, false, false] rfl rfl (one_of HT_.out (by kernel_rfl)) (by decide) (fun K hK => ?_)
                       refine goes_ Tryd.func31 (by kernel_rfl) rfl #[.agg #[.int .i64 t795, .int .u64 t796], .agg #[.int .i64 t805, .int .u64 t806]] (by rfl) rfl rfl (by (try simp only [List.map_toArray, List.map_cons, List.map_nil]); first | done | rfl | (simp only [List.length_drop, List.length_take]; rfl)) ?_
                       with_reducible refine (wide_Add.calls t795 t796 t805 t806 t807 t808 t809 _ A18.out).mono ?_
                       rintro e w89 ⟨rfl, hb⟩; refine ⟨_, rfl, ?_⟩; have n0_ := am (bb BK794 hb); have n1_ := am (bb BK798 hb); have n2_ := am (bb BK804 hb); have n3_ := am (bb BK810 hb); have n4_ := am (below_step bz hb); clear BK794 BK798 BK804 BK810 HB; have BK794 := n0_; have BK798 := n1_; have BK804 := n2_; have BK810 := n3_; have HB := n4_; clear n0_ n1_ n2_ n3_ n4_; (try clear hb); (try clear hb2); (try clear hk); (try clear hi)
                       refine hK.out _ _ ⟨(blk_cell BK798.out 0).trans rfl, (blk_cell BK798.out 1).trans rfl⟩ (fun hHeld => ?_)
                       clear hK K
                       refine norm_ (a' := ?_) ?_ ?_
                       rotate_left
                       · show Act.put _ (some 33) _ = _
                         simp only [Act.put, List.setIfInBounds_toArray, List.set_cons_zero, List.set_cons_succ, i64_w, i32_w]
                         rfl
                       refine pure_ (i := 3) (N := some 30) (v := ?_) (a' := ?_) #[true, true, true, true, false, false, true, false, false] rfl rfl (any_of HT_.out (by kernel_rfl)) (fun _ _ _ h => h) (Or.inl ⟨by rfl, ?_⟩) ?_ ?_
                       rotate_left
                       · intro w'
                         go_simp
                         with_reducible rfl
                       rotate_left
                       · simp only [Act.put, List.setIfInBounds_toArray, List.set_cons_zero, List.set_cons_succ, i64_w, i32_w]
                         rfl
                       refine pure_ (i := 4) (N := some 34) (v := ?_) (a' := ?_) #[true, true, true, true, true, false, true, false, false] rfl rfl (any_of HT_.out (by kernel_rfl)) (fun _ _ _ h => h) (Or.inl ⟨by rfl, ?_⟩) ?_ ?_
                       rotate_left
                       · intro w'
                         go_simp
                         with_reducible rfl
                       rotate_left
                       · simp only [Act.put, List.setIfInBounds_toArray, List.set_cons_zero, List.set_cons_succ, i64_w, i32_w]
                         rfl
                       refine pure_ (i := 5) (N := some 35) (v := ?_) (a' := ?_) #[true, true, true, true, true, true, true, false, false] rfl rfl (any_of HT_.out (by kernel_rfl)) (fun _ _ _ h => h) (Or.inl ⟨by rfl, ?_⟩) ?_ ?_
                       rotate_left
                       · intro w'
                         go_simp
                         with_reducible rfl
                       rotate_left
                       · simp only [Act.put, List.setIfInBounds_toArray, List.set_cons_zero, List.set_cons_succ, i64_w, i32_w]
                         rfl
                       exact norm_ (by simp only [putAll, Act.put, List.setIfInBounds_toArray, List.set_cons_zero, List.set_cons_succ]) (hCont (gb810) _ ⟨hHeld, (bq BK794), (bq BK798), (bq BK804), (bq BK810), GW810.out, GE810.out, NB794_810.out, NB810_794.out, NB798_810.out, NB810_798.out, NB804_810.out, NB810_804.out, bz⟩)
                   · skip
                     refine box_step ?hg (N := 7) ?hd (cs := #[.int .i64 0, .int .u64 0]) (t := 24) ?hr ?_; (case hd => rfl); (case hg => rfl); (case hr => first | (go_simp; done) | (go_simp; rfl))
                     intro gb810 hg w87 hbox hb; have n0_ := am (bb BK794 hb); have n1_ := am (bb BK798 hb); have n2_ := am (bb BK804 hb); have n3_ := am (below_step bz hb); have n4_ := am (hbox); have n5_ := am ((by rw [hg]; exact (below_size bz) : w.heap.size ≤ gb810)); have n6_ := am ((by rw [hg]; exact (below_size bz) : w.heap.size ≤ gb810)); have n7_ := am ((by rw [hg]; exact Nat.ne_of_lt (bl BK794) : gb794 ≠ gb810)); have n8_ := am ((by rw [hg]; exact Nat.ne_of_gt (bl BK794) : gb810 ≠ gb794)); have n9_ := am ((by rw [hg]; exact Nat.ne_of_lt (bl BK798) : gb798 ≠ gb810)); have n10_ := am ((by rw [hg]; exact Nat.ne_of_gt (bl BK798) : gb810 ≠ gb798)); have n11_ := am ((by rw [hg]; exact Nat.ne_of_lt (bl BK804) : gb804 ≠ gb810)); have n12_ := am ((by rw [hg]; exact Nat.ne_of_gt (bl BK804) : gb810 ≠ gb804)); clear BK794 BK798 BK804 HB; have BK794 := n0_; have BK798 := n1_; have BK804 := n2_; have HB := n3_; have BK810 := n4_; have GW810 := n5_; have GE810 := n6_; have NB794_810 := n7_; have NB810_794 := n8_; have NB798_810 := n9_; have NB810_798 := n10_; have NB804_810 := n11_; have NB810_804 := n12_; clear n0_ n1_ n2_ n3_ n4_ n5_ n6_ n7_ n8_ n9_ n10_ n11_ n12_ hb hbox hg
                     refine hK.out _ _ ⟨(blk_cell BK798.out 0).trans rfl, (blk_cell BK798.out 1).trans rfl⟩ (fun hHeld => ?_)
                     clear hK K
                     refine norm_ (a' := ?_) ?_ ?_
                     rotate_left
                     · show Act.put _ (some 7) _ = _
                       simp only [Act.put, List.setIfInBounds_toArray, List.set_cons_zero, List.set_cons_succ, i64_w, i32_w]
                       rfl
                     refine one_ (i := 1) (N := some 32) #[true, true, false, false, false, false, true, false, false] rfl rfl (one_of HT_.out (by kernel_rfl)) (by decide) (fun K hK => ?_)
                     refine goes_ Tryd.func47 (by kernel_rfl) rfl #[.int .i64 1] (by rfl) rfl rfl (by (try simp only [List.map_toArray, List.map_cons, List.map_nil]); first | done | rfl | (simp only [List.length_drop, List.length_take]; rfl)) ?_
                     with_reducible refine (wide_Of.calls 1 t805 t806 _ A17.out).mono ?_
                     rintro e w88 ⟨rfl, hb⟩; refine ⟨_, rfl, ?_⟩; have n0_ := am (bb BK794 hb); have n1_ := am (bb BK798 hb); have n2_ := am (bb BK804 hb); have n3_ := am (bb BK810 hb); have n4_ := am (below_step bz hb); clear BK794 BK798 BK804 BK810 HB; have BK794 := n0_; have BK798 := n1_; have BK804 := n2_; have BK810 := n3_; have HB := n4_; clear n0_ n1_ n2_ n3_ n4_; (try clear hb); (try clear hb2); (try clear hk); (try clear hi)
                     refine hK.out _ _ ⟨(blk_cell BK798.out 0).trans rfl, (blk_cell BK798.out 1).trans rfl⟩ (fun hHeld => ?_)
                     clear hK K
                     refine norm_ (a' := ?_) ?_ ?_
                     rotate_left
                     · show Act.put _ (some 32) _ = _
                       simp only [Act.put, List.setIfInBounds_toArray, List.set_cons_zero, List.set_cons_succ, i64_w, i32_w]
                       rfl
                     refine one_ (i := 2) (N := some 33) #[true, true, true, false, false, false, true, false, false] rfl rfl (one_of HT_.out (by kernel_rfl)) (by decide) (fun K hK => ?_)
                     refine goes_ Tryd.func31 (by kernel_rfl) rfl #[.agg #[.int .i64 t795, .int .u64 t796], .agg #[.int .i64 t805, .int .u64 t806]] (by rfl) rfl rfl (by (try simp only [List.map_toArray, List.map_cons, List.map_nil]); first | done | rfl | (simp only [List.length_drop, List.length_take]; rfl)) ?_
                     with_reducible refine (wide_Add.calls t795 t796 t805 t806 t807 t808 t809 _ A18.out).mono ?_
                     rintro e w89 ⟨rfl, hb⟩; refine ⟨_, rfl, ?_⟩; have n0_ := am (bb BK794 hb); have n1_ := am (bb BK798 hb); have n2_ := am (bb BK804 hb); have n3_ := am (bb BK810 hb); have n4_ := am (below_step bz hb); clear BK794 BK798 BK804 BK810 HB; have BK794 := n0_; have BK798 := n1_; have BK804 := n2_; have BK810 := n3_; have HB := n4_; clear n0_ n1_ n2_ n3_ n4_; (try clear hb); (try clear hb2); (try clear hk); (try clear hi)
                     refine hK.out _ _ ⟨(blk_cell BK798.out 0).trans rfl, (blk_cell BK798.out 1).trans rfl⟩ (fun hHeld => ?_)
                     clear hK K
                     refine norm_ (a' := ?_) ?_ ?_
                     rotate_left
                     · show Act.put _ (some 33) _ = _
                       simp only [Act.put, List.setIfInBounds_toArray, List.set_cons_zero, List.set_cons_succ, i64_w, i32_w]
                       rfl
                     refine pure_ (i := 3) (N := some 30) (v := ?_) (a' := ?_) #[true, true, true, true, false, false, true, false, false] rfl rfl (any_of HT_.out (by kernel_rfl)) (fun _ _ _ h => h) (Or.inl ⟨by rfl, ?_⟩) ?_ ?_
                     rotate_left
                     · intro w'
                       go_simp
                       with_reducible rfl
                     rotate_left
                     · simp only [Act.put, List.setIfInBounds_toArray, List.set_cons_zero, List.set_cons_succ, i64_w, i32_w]
                       rfl
                     refine pure_ (i := 4) (N := some 34) (v := ?_) (a' := ?_) #[true, true, true, true, true, false, true, false, false] rfl rfl (any_of HT_.out (by kernel_rfl)) (fun _ _ _ h => h) (Or.inl ⟨by rfl, ?_⟩) ?_ ?_
                     rotate_left
                     · intro w'
                       go_simp
                       with_reducible rfl
                     rotate_left
                     · simp only [Act.put, List.setIfInBounds_toArray, List.set_cons_zero, List.set_cons_succ, i64_w, i32_w]
                       rfl
                     refine pure_ (i := 5) (N := some 35) (v := ?_) (a' := ?_) #[true, true, true, true, true, true, true, false, false] rfl rfl (any_of HT_.out (by kernel_rfl)) (fun _ _ _ h => h) (Or.inl ⟨by rfl, ?_⟩) ?_ ?_
                     rotate_left
                     · intro w'
                       go_simp
                       with_reducible rfl
                     rotate_left
                     · simp only [Act.put, List.setIfInBounds_toArray, List.set_cons_zero, List.set_cons_succ, i64_w, i32_w]
                       rfl
                     exact norm_ (by simp only [putAll, Act.put, List.setIfInBounds_toArray, List.set_cons_zero, List.set_cons_succ]) (hCont (gb810) _ ⟨hHeld, (bq BK794), (bq BK798), (bq BK804), (bq BK810), GW810.out, GE810.out, NB794_810.out, NB810_794.out, NB798_810.out, NB810_798.out, NB804_810.out, NB810_804.out, bz⟩)
                 rintro gb810 w90 ⟨hS_, h0_, h1_, h2_, h3_, h4_, h5_, h6_, h7_, h8_, h9_, h10_, h11_, h12_⟩; have n0_ : Aside0 (w90.heap[gb794]? = some (.cells #[.int .i64 a0_0, .int .u64 a0_1] 24 (0, 0))) := ⟨h0_⟩; have n1_ : Aside0 (w90.heap[gb798]? = some (.cells #[.int .i64 t795, .int .u64 t796] 24 (0, 0))) := ⟨h1_⟩; have n2_ : Aside0 (w90.heap[gb804]? = some (.cells #[.int .i64 t801, .int .u64 t802] 24 (0, 0))) := ⟨h2_⟩; have n3_ : Aside0 (w90.heap[gb810]? = some (.cells #[.int .i64 0, .int .u64 0] 24 (0, 0))) := ⟨h3_⟩; have n4_ : Aside0 (w.heap.size ≤ gb810) := ⟨h4_⟩; have n5_ : Aside0 (w.heap.size ≤ gb810) := ⟨h5_⟩; have n6_ : Aside0 (gb794 ≠ gb810) := ⟨h6_⟩; have n7_ : Aside0 (gb810 ≠ gb794) := ⟨h7_⟩; have n8_ : Aside0 (gb798 ≠ gb810) := ⟨h8_⟩; have n9_ : Aside0 (gb810 ≠ gb798) := ⟨h9_⟩; have n10_ : Aside0 (gb804 ≠ gb810) := ⟨h10_⟩; have n11_ : Aside0 (gb810 ≠ gb804) := ⟨h11_⟩; have n12_ : Aside0 (Below w.heap.size w w90) := ⟨h12_⟩; clear BK794 BK798 BK804 HB h0_ h1_ h2_ h3_ h4_ h5_ h6_ h7_ h8_ h9_ h10_ h11_ h12_; have BK794 := n0_; have BK798 := n1_; have BK804 := n2_; have BK810 := n3_; have GW810 := n4_; have GE810 := n5_; have NB794_810 := n6_; have NB810_794 := n7_; have NB798_810 := n8_; have NB810_798 := n9_; have NB804_810 := n10_; have NB810_804 := n11_; have HB := n12_; clear n0_ n1_ n2_ n3_ n4_ n5_ n6_ n7_ n8_ n9_ n10_ n11_ n12_; have hHeld : w90.cell? ⟨gb798, 0, none⟩ = some (.int .i64 t795) ∧ w90.cell? ⟨gb798, 1, none⟩ = some (.int .u64 t796) := hS_
                 refine norm_ (a' := ?_) ?_ ?_
                 rotate_left
                 · simp only [putAll, Act.put, List.setIfInBounds_toArray, List.set_cons_zero, List.set_cons_succ]
                   rfl
                 refine one_ (i := 7) (N := none) #[true, true, true, true, true, true, true, true, false] rfl rfl (one_of HT_.out (by kernel_rfl)) (by decide) (fun K hK => ?_)
                 have hs91 : w90.cell? ⟨gb810, 0, none⟩ = some (.int .i64 0) := (blk_cell BK810.out 0).trans rfl; have hfs91 := blk_frozen BK810.out 0; have hns91_0 := NB794_810.out; have hns91_1 := NB798_810.out; have hns91_2 := NB804_810.out; have hms91_0 := NB810_794.out; have hms91_1 := NB810_798.out; have hms91_2 := NB810_804.out; have hs92 : w90.cell? ⟨gb810, 1, none⟩ = some (.int .u64 0) := (blk_cell BK810.out 1).trans rfl; have hfs92 := blk_frozen BK810.out 1; have hns92_0 := NB794_810.out; have hns92_1 := NB798_810.out; have hns92_2 := NB804_810.out; have hms92_0 := NB810_794.out; have hms92_1 := NB810_798.out; have hms92_2 := NB810_804.out
                 refine skip_ (w1 := ?_) (by rfl) rfl ?_ ?_
                 rotate_left
                 · go_simp
                   rfl
                 refine hK.out _ _ ⟨((cell_far (p := ⟨gb810, _, none⟩) NB798_810.out _).trans (((cell_far (p := ⟨gb810, _, none⟩) NB798_810.out _).trans (hHeld.1)))), ((cell_far (p := ⟨gb810, _, none⟩) NB798_810.out _).trans (((cell_far (p := ⟨gb810, _, none⟩) NB798_810.out _).trans (hHeld.2))))⟩ (fun hHeld => ?_)
                 clear hK K
                 refine pure_ (i := 8) (N := some 8) (v := ?_) (a' := ?_) #[true, true, true, true, true, true, true, true, true] rfl rfl (any_of HT_.out (by kernel_rfl)) (fun _ _ _ h => h) (Or.inl ⟨by rfl, ?_⟩) ?_ ?_
                 rotate_left
                 · intro w'
                   go_simp
                   with_reducible rfl
                 rotate_left
                 · simp only [Act.put, List.setIfInBounds_toArray, List.set_cons_zero, List.set_cons_succ, i64_w, i32_w]
                   rfl
                 refine done_ (done_of HT_.out (by kernel_rfl)) ?_
                 have hnb93 := NB810_794.out; have hnc93 := NB794_810.out; have hnb94 := NB810_798.out; have hnc94 := NB798_810.out; have hnb95 := NB810_804.out; have hnc95 := NB804_810.out; have hcz96_0 : w90.cell? ⟨gb810, 0, none⟩ = some (.int .i64 0) := (blk_cell BK810.out 0).trans rfl; have hcz96_1 : w90.cell? ⟨gb810, 1, none⟩ = some (.int .u64 0) := (blk_cell BK810.out 1).trans rfl; have hfz96_0 := blk_frozen BK810.out 0; have hfz96_1 := blk_frozen BK810.out 1
                 try go_wp2_with (first | ((with_reducible refine gate_callee (f := 27) rfl ?_); refine goesL_ (some 39) rfl rfl Tryd.func27 (by kernel_rfl) rfl #[.agg #[.int .i64 t807, .int .u64 t808], .agg #[.int .i64 t807, .int .u64 t808]] rfl (by (try simp only [List.map_toArray, List.map_cons, List.map_nil]); first | done | rfl | (simp only [List.length_drop, List.length_take]; rfl)) ?_; (with_reducible refine (wide_Mul.calls k t807 t808 t807 t808 t811 t812 t813 _ A19.out).mono ?_); rintro e w97 ⟨rfl, hb⟩; refine ⟨_, rfl, ?_⟩; have n0_ := am (blk_below (g := gb794) (o := .cells #[.int .i64 a0_0, .int .u64 a0_1] 24 (0, 0)) (by (with_reducible repeat (first | apply bA | apply bB | apply bC)); refine blk_far ?_ NB794_810.out _; (with_reducible repeat (first | apply bA | apply bB | apply bC)); refine blk_far ?_ NB794_810.out _; (with_reducible repeat (first | apply bA | apply bB | apply bC)); exact BK794.out) hb); have n1_ := am (blk_below (g := gb798) (o := .cells #[.int .i64 t795, .int .u64 t796] 24 (0, 0)) (by (with_reducible repeat (first | apply bA | apply bB | apply bC)); refine blk_far ?_ NB798_810.out _; (with_reducible repeat (first | apply bA | apply bB | apply bC)); refine blk_far ?_ NB798_810.out _; (with_reducible repeat (first | apply bA | apply bB | apply bC)); exact BK798.out) hb); have n2_ := am (blk_below (g := gb804) (o := .cells #[.int .i64 t801, .int .u64 t802] 24 (0, 0)) (by (with_reducible repeat (first | apply bA | apply bB | apply bC)); refine blk_far ?_ NB804_810.out _; (with_reducible repeat (first | apply bA | apply bB | apply bC)); refine blk_far ?_ NB804_810.out _; (with_reducible repeat (first | apply bA | apply bB | apply bC)); exact BK804.out) hb); have n3_ := am (blk_below (g := gb810) (o := .cells #[.int .i64 t807, .int .u64 t808] 24 (0, 0)) (by (with_reducible repeat (first | apply bA | apply bB | apply bC)); refine blk_put (cs := #[.int .i64 t807, .int .u64 0]) ?_ 1 _ rfl; (with_reducible repeat (first | apply bA | apply bB | apply bC)); refine blk_put (cs := #[.int .i64 0, .int .u64 0]) ?_ 0 _ rfl; (with_reducible repeat (first | apply bA | apply bB | apply bC)); exact BK810.out) hb); have n4_ := am (below_step bz hb); clear BK794; clear BK798; clear BK804; clear BK810; clear HB; have BK794 := n0_; have BK798 := n1_; have BK804 := n2_; have BK810 := n3_; have HB := n4_; clear n0_ n1_ n2_ n3_ n4_; (try clear hb); (try clear hb2); (try clear hk); (try clear hi)) | ((with_reducible refine gate_dst (N := 9) rfl ?_); refine box_event ?hg (N := 9) ?hd (cs := #[.int .i64 0, .int .u64 0]) (t := 24) ?hr ?_; (case hd => rfl); (case hg => rfl); (case hr => first | (go_simp; done) | (go_simp; rfl)); intro gb814 hg w98 hbox hb; have n0_ := am (bb BK794 hb); have n1_ := am (bb BK798 hb); have n2_ := am (bb BK804 hb); have n3_ := am (bb BK810 hb); have n4_ := am (below_step bz hb); have n5_ := am (hbox); have n6_ := am ((by rw [hg]; exact (below_size bz) : w.heap.size ≤ gb814)); have n7_ := am ((by rw [hg]; exact (below_size bz) : w.heap.size ≤ gb814)); have n8_ := am ((by rw [hg]; exact Nat.ne_of_lt (bl BK794) : gb794 ≠ gb814)); have n9_ := am ((by rw [hg]; exact Nat.ne_of_gt (bl BK794) : gb814 ≠ gb794)); have n10_ := am ((by rw [hg]; exact Nat.ne_of_lt (bl BK798) : gb798 ≠ gb814)); have n11_ := am ((by rw [hg]; exact Nat.ne_of_gt (bl BK798) : gb814 ≠ gb798)); have n12_ := am ((by rw [hg]; exact Nat.ne_of_lt (bl BK804) : gb804 ≠ gb814)); have n13_ := am ((by rw [hg]; exact Nat.ne_of_gt (bl BK804) : gb814 ≠ gb804)); have n14_ := am ((by rw [hg]; exact Nat.ne_of_lt (bl BK810) : gb810 ≠ gb814)); have n15_ := am ((by rw [hg]; exact Nat.ne_of_gt (bl BK810) : gb814 ≠ gb810)); clear BK794; clear BK798; clear BK804; clear BK810; clear HB; have BK794 := n0_; have BK798 := n1_; have BK804 := n2_; have BK810 := n3_; have HB := n4_; have BK814 := n5_; have GW814 := n6_; have GE814 := n7_; have NB794_814 := n8_; have NB814_794 := n9_; have NB798_814 := n10_; have NB814_798 := n11_; have NB804_814 := n12_; have NB814_804 := n13_; have NB810_814 := n14_; have NB814_810 := n15_; clear n0_ n1_ n2_ n3_ n4_ n5_ n6_ n7_ n8_ n9_ n10_ n11_ n12_ n13_ n14_ n15_; clear hb hbox hg; have hnb99 := NB814_794.out; have hnc99 := NB794_814.out; have hnb100 := NB814_798.out; have hnc100 := NB798_814.out; have hnb101 := NB814_804.out; have hnc101 := NB804_814.out; have hnb102 := NB814_810.out; have hnc102 := NB810_814.out; have hcz103_0 : w98.cell? ⟨gb814, 0, none⟩ = some (.int .i64 0) := (blk_cell BK814.out 0).trans rfl; have hcz103_1 : w98.cell? ⟨gb814, 1, none⟩ = some (.int .u64 0) := (blk_cell BK814.out 1).trans rfl; have hfz103_0 := blk_frozen BK814.out 0; have hfz103_1 := blk_frozen BK814.out 1; have hcz104_0 : w98.cell? ⟨gb798, 0, none⟩ = some (.int .i64 t795) := (blk_cell BK798.out 0).trans rfl; have hcz104_1 : w98.cell? ⟨gb798, 1, none⟩ = some (.int .u64 t796) := (blk_cell BK798.out 1).trans rfl; have hfz104_0 := blk_frozen BK798.out 0; have hfz104_1 := blk_frozen BK798.out 1) | (go_at_call 50; (with_reducible refine (wide_Sign.calls t795 t796 t815 _ A23.out).mono ?_); rintro e w105 ⟨rfl, hb⟩; have n0_ := am (blk_below (g := gb794) (o := .cells #[.int .i64 a0_0, .int .u64 a0_1] 24 (0, 0)) (by (with_reducible repeat (first | apply bA | apply bB | apply bC)); refine blk_far ?_ NB794_814.out _; (with_reducible repeat (first | apply bA | apply bB | apply bC)); refine blk_far ?_ NB794_814.out _; (with_reducible repeat (first | apply bA | apply bB | apply bC)); exact BK794.out) hb); have n1_ := am (blk_below (g := gb798) (o := .cells #[.int .i64 t795, .int .u64 t796] 24 (0, 0)) (by (with_reducible repeat (first | apply bA | apply bB | apply bC)); refine blk_far ?_ NB798_814.out _; (with_reducible repeat (first | apply bA | apply bB | apply bC)); refine blk_far ?_ NB798_814.out _; (with_reducible repeat (first | apply bA | apply bB | apply bC)); exact BK798.out) hb); have n2_ := am (blk_below (g := gb804) (o := .cells #[.int .i64 t801, .int .u64 t802] 24 (0, 0)) (by (with_reducible repeat (first | apply bA | apply bB | apply bC)); refine blk_far ?_ NB804_814.out _; (with_reducible repeat (first | apply bA | apply bB | apply bC)); refine blk_far ?_ NB804_814.out _; (with_reducible repeat (first | apply bA | apply bB | apply bC)); exact BK804.out) hb); have n3_ := am (blk_below (g := gb810) (o := .cells #[.int .i64 t807, .int .u64 t808] 24 (0, 0)) (by (with_reducible repeat (first | apply bA | apply bB | apply bC)); refine blk_far ?_ NB810_814.out _; (with_reducible repeat (first | apply bA | apply bB | apply bC)); refine blk_far ?_ NB810_814.out _; (with_reducible repeat (first | apply bA | apply bB | apply bC)); exact BK810.out) hb); have n4_ := am (blk_below (g := gb814) (o := .cells #[.int .i64 t811, .int .u64 t812] 24 (0, 0)) (by (with_reducible repeat (first | apply bA | apply bB | apply bC)); refine blk_put (cs := #[.int .i64 t811, .int .u64 0]) ?_ 1 _ rfl; (with_reducible repeat (first | apply bA | apply bB | apply bC)); refine blk_put (cs := #[.int .i64 0, .int .u64 0]) ?_ 0 _ rfl; (with_reducible repeat (first | apply bA | apply bB | apply bC)); exact BK814.out) hb); have n5_ := am (below_step bz hb); clear BK794; clear BK798; clear BK804; clear BK810; clear BK814; clear HB; have BK794 := n0_; have BK798 := n1_; have BK804 := n2_; have BK810 := n3_; have BK814 := n4_; have HB := n5_; clear n0_ n1_ n2_ n3_ n4_ n5_; (try clear hb); (try clear hb2); (try clear hk); (try clear hi); have hcz106_0 : w105.cell? ⟨gb804, 0, none⟩ = some (.int .i64 t801) := (blk_cell BK804.out 0).trans rfl; have hcz106_1 : w105.cell? ⟨gb804, 1, none⟩ = some (.int .u64 t802) := (blk_cell BK804.out 1).trans rfl; have hfz106_0 := blk_frozen BK804.out 0; have hfz106_1 := blk_frozen BK804.out 1; have hcz107_0 : w105.cell? ⟨gb794, 0, none⟩ = some (.int .i64 a0_0) := (blk_cell BK794.out 0).trans rfl; have hcz107_1 : w105.cell? ⟨gb794, 1, none⟩ = some (.int .u64 a0_1) := (blk_cell BK794.out 1).trans rfl; have hfz107_0 := blk_frozen BK794.out 0; have hfz107_1 := blk_frozen BK794.out 1) | (go_at_call 30; (with_reducible refine (wide_Cmp.calls t801 t802 a0_0 a0_1 t816 _ A25.out).mono ?_); rintro e w108 ⟨rfl, hb⟩; have n0_ := am (bb BK794 hb); have n1_ := am (bb BK798 hb); have n2_ := am (bb BK804 hb); have n3_ := am (bb BK810 hb); have n4_ := am (bb BK814 hb); have n5_ := am (below_step bz hb); clear BK794; clear BK798; clear BK804; clear BK810; clear BK814; clear HB; have BK794 := n0_; have BK798 := n1_; have BK804 := n2_; have BK810 := n3_; have BK814 := n4_; have HB := n5_; clear n0_ n1_ n2_ n3_ n4_ n5_; (try clear hb); (try clear hb2); (try clear hk); (try clear hi); have hcz109_0 : w108.cell? ⟨gb814, 0, none⟩ = some (.int .i64 t811) := (blk_cell BK814.out 0).trans rfl; have hcz109_1 : w108.cell? ⟨gb814, 1, none⟩ = some (.int .u64 t812) := (blk_cell BK814.out 1).trans rfl; have hfz109_0 := blk_frozen BK814.out 0; have hfz109_1 := blk_frozen BK814.out 1; have hcz110_0 : w108.cell? ⟨gb794, 0, none⟩ = some (.int .i64 a0_0) := (blk_cell BK794.out 0).trans rfl; have hcz110_1 : w108.cell? ⟨gb794, 1, none⟩ = some (.int .u64 a0_1) := (blk_cell BK794.out 1).trans rfl; have hfz110_0 := blk_frozen BK794.out 0; have hfz110_1 := blk_frozen BK794.out 1) | (go_at_call 30; (with_reducible refine (wide_Cmp.calls t811 t812 a0_0 a0_1 t818 _ A68.out).mono ?_); rintro e w111 ⟨rfl, hb⟩; have n0_ := am (bb BK794 hb); have n1_ := am (bb BK798 hb); have n2_ := am (bb BK804 hb); have n3_ := am (bb BK810 hb); have n4_ := am (bb BK814 hb); have n5_ := am (below_step bz hb); clear BK794; clear BK798; clear BK804; clear BK810; clear BK814; clear HB; have BK794 := n0_; have BK798 := n1_; have BK804 := n2_; have BK810 := n3_; have BK814 := n4_; have HB := n5_; clear n0_ n1_ n2_ n3_ n4_ n5_; (try clear hb); (try clear hb2); (try clear hk); (try clear hi)) | (go_at_call 29; (with_reducible refine (tumblerlaw01_alive.calls k  t819 _ (tN hT) A70.out).mono ?_); rintro e w112 ⟨rfl, hb⟩; have n0_ := am (bb BK794 hb); have n1_ := am (bb BK798 hb); have n2_ := am (bb BK804 hb); have n3_ := am (bb BK810 hb); have n4_ := am (bb BK814 hb); have n5_ := am (below_step bz hb); clear BK794; clear BK798; clear BK804; clear BK810; clear BK814; clear HB; have BK794 := n0_; have BK798 := n1_; have BK804 := n2_; have BK810 := n3_; have BK814 := n4_; have HB := n5_; clear n0_ n1_ n2_ n3_ n4_ n5_; (try clear hb); (try clear hb2); (try clear hk); (try clear hi)))
                 go_ret
                 exact ⟨by first | rfl | (simp [errW_none, errW_some] <;> rfl) | (simp [*, errW_none, errW_some] <;> rfl), by repeat (first | (with_reducible first | exact HB.out | apply dA | apply dB | apply dC | refine dE ?_ ‹_›) | exact HB.out)⟩
               · rw [if_neg c69] at H
                 have c69b0 : decide (0 < t818) = false := decide_eq_false c69; clear c69
                 exact Bool.noConfusion ((Option.some.inj H).trans hr_.out)
           · rw [if_neg c26] at H
             have c26b0 : decide (t816 ≤ 0) = false := decide_eq_false c26; clear c26
             exact Bool.noConfusion ((Option.some.inj H).trans hr_.out)
         · rw [if_neg c24] at H
           have c24b0 : decide (0 ≤ t815) = false := decide_eq_false c24; clear c24
           exact Bool.noConfusion ((Option.some.inj H).trans hr_.out)
       · rw [if_neg c22] at H
         have c22b0 : (t809 == 0) = false := beq_eq_false_iff_ne.mpr c22; have c22b1 : (t809 != 0) = true := bne_iff_ne.mpr c22
         exact Bool.noConfusion ((Option.some.inj H).trans hr_.out)
     · rw [if_neg c21] at H
       have c21b0 : (t803 == 0) = false := beq_eq_false_iff_ne.mpr c21; have c21b1 : (t803 != 0) = true := bne_iff_ne.mpr c21
       exact Bool.noConfusion ((Option.some.inj H).trans hr_.out)
   · rw [if_neg c20] at H
     have c20b0 : (t797 == 0) = false := beq_eq_false_iff_ne.mpr c20; have c20b1 : (t797 != 0) = true := bne_iff_ne.mpr c20
     exact Bool.noConfusion ((Option.some.inj H).trans hr_.out)

/-- THE ONE PURE STATEMENT of tumblerlaw01_WideSquares: yours. -/
def tumblerlaw01_WideSquares.Pure : Prop := ∀ (a0_0 : Int) (a0_1 : Int), (Lit.int .i64 a0_0).wf = true → (Lit.int .u64 a0_1).wf = true → ∃ k, tumblerlaw01_WideSquares.f k a0_0 a0_1 = some true
theorem tumblerlaw01_WideSquares.walk (P : tumblerlaw01_WideSquares.Pure) (a0_0 : Int) (a0_1 : Int) (w : World) (hT : Aside0 (WF w)) (w0_0 : (Lit.int .i64 a0_0).wf = true) (w0_1 : (Lit.int .u64 a0_1).wf = true) :
 Calls Tryd.prog 13 #[.agg #[.int .i64 a0_0, .int .u64 a0_1]] w fun e w' => e = .returned (.bool true) ∧ Below w.heap.size w w' := by
 obtain ⟨k, h⟩ := P a0_0 a0_1 w0_0 w0_1
 refine (tumblerlaw01_WideSquares.calls k a0_0 a0_1 true w hT ⟨rfl⟩ h).mono ?_
 rintro e w' ⟨rfl, hd⟩
 exact ⟨rfl, hd⟩

end Go.Proofs.YtcfhmbhlibhlnaaDoor.P
