-- Printed by this session's own pp.py (wip/tool) out of the translation.
import Derived.Test.YtcfhmbhlibhlnaaDoorPx0
import Derived.Test.YtcfhmbhlibhlnaaDoorPxe24
import Derived.Test.YtcfhmbhlibhlnaaDoorPxf29
import Derived.Test.YtcfhmbhlibhlnaaDoorPxf52
import Derived.Test.YtcfhmbhlibhlnaaDoorPxf53
namespace Go.Proofs.YtcfhmbhlibhlnaaDoor.P
open Go.RowKit Go.Proofs.YtcfhmbhlibhlnaaDoorW.PrintWords Go.Proofs.YtcfhmbhlibhlnaaDoorW.PrintLast Go.Proofs.YtcfhmbhlibhlnaaDoorW.PrintMore Go.Proofs.YtcfhmbhlibhlnaaDoor.Mine
attribute [local go_sem] ext71 ext79 eqA61 eqA62
attribute [local go_sem] max2_int min2_int max_two min_two max_three min_three max_four min_four   -- for this text's walks alone
set_option linter.unusedVariables false
set_option linter.unusedSimpArgs false

attribute [local go_sem high] eqA24
/-! ### tumblerlaw01_WideParses: function 15 -/
def tumblerlaw01_WideParses.f (k : Nat) (a0 : ByteArray) : Option (Bool) := (wide_Parse.f k a0).bind fun bt907 => ((tumblerref01_Parse.f k a0).bind fun bt911 => (if (bt907.1 == bt911.1 && (bt907.2.1 == bt911.2.1)) = true then (if bt907.2.2 = bt911.2.2 then ((tumblerlaw01_alive.f k).bind fun t915 => (some t915)) else (some false)) else (some false)))
theorem tumblerlaw01_WideParses.mono : ∀ a0 k, LeO (tumblerlaw01_WideParses.f k a0) (tumblerlaw01_WideParses.f (k + 1) a0) := by
 intro a0 k
 unfold tumblerlaw01_WideParses.f
 repeat' first
  | (with_reducible exact tumblerlaw01_alive.mono _)
  | (with_reducible exact tumblerref01_Parse.mono _ _)
  | (with_reducible exact wide_Parse.mono _ _)
  | (with_reducible exact LeO.refl _)
  | (with_reducible exact LeO.none _)
  | (with_reducible refine LeO.ite ?_ ?_)
  | (with_reducible refine LeO.bind ?_ (fun _ => ?_))
  | exact tumblerlaw01_alive.mono _
  | exact tumblerref01_Parse.mono _ _
  | exact wide_Parse.mono _ _
  | exact LeO.none _
  | refine LeO.ite ?_ ?_
  | refine LeO.bind ?_ (fun _ => ?_)
set_option maxHeartbeats 8000000 in
set_option maxRecDepth 100000 in
theorem tumblerlaw01_WideParses.calls (k : Nat) (a0 : ByteArray) (r : Bool) (w : World) (hT : Aside0 (WF w)) (hr_ : Aside0 (r = true)) (h : tumblerlaw01_WideParses.f k a0 = some r) :
 Calls Tryd.prog 15 #[.string a0] w fun e w' => e = .returned (.bool r) ∧ Below w.heap.size w w' := by
 have hu24 := Tryd.underlying24; have HB := am (Below.refl w.heap.size w); have H : ((wide_Parse.f k a0).bind fun bt907 => ((tumblerref01_Parse.f k a0).bind fun bt911 => (if (bt907.1 == bt911.1 && (bt907.2.1 == bt911.2.1)) = true then (if bt907.2.2 = bt911.2.2 then ((tumblerlaw01_alive.f k).bind fun t915 => (some t915)) else (some false)) else (some false)))) = some r := h; clear h
 replace H := Option.bind_eq_some_iff.mp H
 obtain ⟨⟨t907, t908, t909⟩, A20, H⟩ := H
 replace H : ((tumblerref01_Parse.f k a0).bind fun bt911 => (if (t907 == bt911.1 && (t908 == bt911.2.1)) = true then (if t909 = bt911.2.2 then ((tumblerlaw01_alive.f k).bind fun t915 => (some t915)) else (some false)) else (some false))) = some r := H
 have A2 := Aside0.mk A20; clear A20
 replace H := Option.bind_eq_some_iff.mp H
 obtain ⟨⟨t911, t912, t913⟩, A30, H⟩ := H
 replace H : (if (t907 == t911 && (t908 == t912)) = true then (if t909 = t913 then ((tumblerlaw01_alive.f k).bind fun t915 => (some t915)) else (some false)) else (some false)) = some r := H
 have A3 := Aside0.mk A30; clear A30
 by_cases c4 : (t907 == t911 && (t908 == t912)) = true
 · rw [if_pos c4] at H
   have c4b0 : (t907 == t911 && (t908 == t912)) = true := c4; (try (have c4b1 : decide (t907 = t911 && (t908 == t912)) = true := by simpa using c4)); (try (have c4b2 : (t907 == t911 && (t908 == t912)) = true := by simpa using c4)); clear c4
   by_cases c5 : t909 = t913
   · rw [if_pos c5] at H
     have c5b0 : (t909 == t913) = true := beq_iff_eq.mpr c5; have c5b1 : (t909 != t913) = false := bne_eq_false_iff_eq.mpr c5; clear c5
     replace H := Option.bind_eq_some_iff.mp H
     obtain ⟨t915, A60, H⟩ := H
     replace H : (some t915) = some r := H
     have A6 := Aside0.mk A60; clear A60
     obtain rfl := Option.some.inj H
     go_enter Tryd.func15, Tryd.ntmps15
     go_wp2_with (first | ((with_reducible refine gate_callee (f := 52) rfl ?_); refine goesL_ (some 9) rfl rfl Tryd.func52 (by kernel_rfl) rfl #[.string a0] rfl (by (try simp only [List.map_toArray, List.map_cons, List.map_nil]); first | done | rfl | (simp only [List.length_drop, List.length_take]; rfl)) ?_; (with_reducible refine (wide_Parse.calls k a0 t907 t908 t909 _ A2.out).mono ?_); rintro e w7 ⟨rfl, hb⟩; refine ⟨_, rfl, ?_⟩; have n0_ := am (below_step bz hb); clear HB; have HB := n0_; clear n0_; (try clear hb); (try clear hb2); (try clear hk); (try clear hi)) | ((with_reducible refine gate_dst (N := 3) rfl ?_); refine box_event ?hg (N := 3) ?hd (cs := #[.int .i64 0, .int .u64 0]) (t := 24) ?hr ?_; (case hd => rfl); (case hg => rfl); (case hr => first | (go_simp; done) | (go_simp; rfl)); intro gb910 hg w8 hbox hb; have n0_ := am (below_step bz hb); have n1_ := am (hbox); have n2_ := am ((by rw [hg]; exact (below_size bz) : w.heap.size ≤ gb910)); have n3_ := am ((by rw [hg]; exact (below_size bz) : w.heap.size ≤ gb910)); clear HB; have HB := n0_; have BK910 := n1_; have GW910 := n2_; have GE910 := n3_; clear n0_ n1_ n2_ n3_; clear hb hbox hg; have hcz9_0 : w8.cell? ⟨gb910, 0, none⟩ = some (.int .i64 0) := (blk_cell BK910.out 0).trans rfl; have hcz9_1 : w8.cell? ⟨gb910, 1, none⟩ = some (.int .u64 0) := (blk_cell BK910.out 1).trans rfl; have hfz9_0 := blk_frozen BK910.out 0; have hfz9_1 := blk_frozen BK910.out 1) | ((with_reducible refine gate_callee (f := 53) rfl ?_); refine goesL_ (some 14) rfl rfl Tryd.func53 (by kernel_rfl) rfl #[.string a0] rfl (by (try simp only [List.map_toArray, List.map_cons, List.map_nil]); first | done | rfl | (simp only [List.length_drop, List.length_take]; rfl)) ?_; (with_reducible refine (tumblerref01_Parse.calls k a0 t911 t912 t913 _ A3.out).mono ?_); rintro e w10 ⟨rfl, hb⟩; refine ⟨_, rfl, ?_⟩; have n0_ := am (blk_below (g := gb910) (o := .cells #[.int .i64 t907, .int .u64 t908] 24 (0, 0)) (by (with_reducible repeat (first | apply bA | apply bB | apply bC)); refine blk_put (cs := #[.int .i64 t907, .int .u64 0]) ?_ 1 _ rfl; (with_reducible repeat (first | apply bA | apply bB | apply bC)); refine blk_put (cs := #[.int .i64 0, .int .u64 0]) ?_ 0 _ rfl; (with_reducible repeat (first | apply bA | apply bB | apply bC)); exact BK910.out) hb); have n1_ := am (below_step bz hb); clear BK910; clear HB; have BK910 := n0_; have HB := n1_; clear n0_ n1_; (try clear hb); (try clear hb2); (try clear hk); (try clear hi)) | ((with_reducible refine gate_dst (N := 5) rfl ?_); refine box_event ?hg (N := 5) ?hd (cs := #[.int .i64 0, .int .u64 0]) (t := 24) ?hr ?_; (case hd => rfl); (case hg => rfl); (case hr => first | (go_simp; done) | (go_simp; rfl)); intro gb914 hg w11 hbox hb; have n0_ := am (bb BK910 hb); have n1_ := am (below_step bz hb); have n2_ := am (hbox); have n3_ := am ((by rw [hg]; exact (below_size bz) : w.heap.size ≤ gb914)); have n4_ := am ((by rw [hg]; exact (below_size bz) : w.heap.size ≤ gb914)); have n5_ := am ((by rw [hg]; exact Nat.ne_of_lt (bl BK910) : gb910 ≠ gb914)); have n6_ := am ((by rw [hg]; exact Nat.ne_of_gt (bl BK910) : gb914 ≠ gb910)); clear BK910; clear HB; have BK910 := n0_; have HB := n1_; have BK914 := n2_; have GW914 := n3_; have GE914 := n4_; have NB910_914 := n5_; have NB914_910 := n6_; clear n0_ n1_ n2_ n3_ n4_ n5_ n6_; clear hb hbox hg; have hnb12 := NB914_910.out; have hnc12 := NB910_914.out; have hcz13_0 : w11.cell? ⟨gb914, 0, none⟩ = some (.int .i64 0) := (blk_cell BK914.out 0).trans rfl; have hcz13_1 : w11.cell? ⟨gb914, 1, none⟩ = some (.int .u64 0) := (blk_cell BK914.out 1).trans rfl; have hfz13_0 := blk_frozen BK914.out 0; have hfz13_1 := blk_frozen BK914.out 1; have hcz14_0 : w11.cell? ⟨gb910, 0, none⟩ = some (.int .i64 t907) := (blk_cell BK910.out 0).trans rfl; have hcz14_1 : w11.cell? ⟨gb910, 1, none⟩ = some (.int .u64 t908) := (blk_cell BK910.out 1).trans rfl; have hfz14_0 := blk_frozen BK910.out 0; have hfz14_1 := blk_frozen BK910.out 1) | (go_at_call 29; (with_reducible refine (tumblerlaw01_alive.calls k  t915 _ (tN hT) A6.out).mono ?_); rintro e w15 ⟨rfl, hb⟩; have n0_ := am (blk_below (g := gb910) (o := .cells #[.int .i64 t907, .int .u64 t908] 24 (0, 0)) (by (with_reducible repeat (first | apply bA | apply bB | apply bC)); refine blk_far ?_ NB910_914.out _; (with_reducible repeat (first | apply bA | apply bB | apply bC)); refine blk_far ?_ NB910_914.out _; (with_reducible repeat (first | apply bA | apply bB | apply bC)); exact BK910.out) hb); have n1_ := am (blk_below (g := gb914) (o := .cells #[.int .i64 t911, .int .u64 t912] 24 (0, 0)) (by (with_reducible repeat (first | apply bA | apply bB | apply bC)); refine blk_put (cs := #[.int .i64 t911, .int .u64 0]) ?_ 1 _ rfl; (with_reducible repeat (first | apply bA | apply bB | apply bC)); refine blk_put (cs := #[.int .i64 0, .int .u64 0]) ?_ 0 _ rfl; (with_reducible repeat (first | apply bA | apply bB | apply bC)); exact BK914.out) hb); have n2_ := am (below_step bz hb); clear BK910; clear BK914; clear HB; have BK910 := n0_; have BK914 := n1_; have HB := n2_; clear n0_ n1_ n2_; (try clear hb); (try clear hb2); (try clear hk); (try clear hi)))
     go_ret
     exact ⟨by first | rfl | (simp [errW_none, errW_some] <;> rfl) | (simp [*, errW_none, errW_some] <;> rfl), by repeat (first | (with_reducible first | exact HB.out | apply dA | apply dB | apply dC | refine dE ?_ ‹_›) | exact HB.out)⟩
   · rw [if_neg c5] at H
     have c5b0 : (t909 == t913) = false := beq_eq_false_iff_ne.mpr c5; have c5b1 : (t909 != t913) = true := bne_iff_ne.mpr c5
     exact Bool.noConfusion ((Option.some.inj H).trans hr_.out)
 · rw [if_neg c4] at H
   have c4b0 : (t907 == t911 && (t908 == t912)) = false := by simpa using c4
   (try (have c4b1 : decide (t907 = t911 && (t908 == t912)) = false := by simpa using c4)); (try (have c4b2 : (t907 == t911 && (t908 == t912)) = false := by simpa using c4)); (try (have c4b3 : ¬ (t907 = t911 && (t908 == t912)) := by simpa using c4)); clear c4
   exact Bool.noConfusion ((Option.some.inj H).trans hr_.out)

/-- THE ONE PURE STATEMENT of tumblerlaw01_WideParses: yours. -/
def tumblerlaw01_WideParses.Pure : Prop := ∀ (a0 : ByteArray), a0.size ≤ 1048576 → ∃ k, tumblerlaw01_WideParses.f k a0 = some true
theorem tumblerlaw01_WideParses.walk (P : tumblerlaw01_WideParses.Pure) (a0 : ByteArray) (w : World) (hT : Aside0 (WF w)) (w0 : a0.size ≤ 1048576) :
 Calls Tryd.prog 15 #[.string a0] w fun e w' => e = .returned (.bool true) ∧ Below w.heap.size w w' := by
 obtain ⟨k, h⟩ := P a0 w0
 refine (tumblerlaw01_WideParses.calls k a0 true w hT ⟨rfl⟩ h).mono ?_
 rintro e w' ⟨rfl, hd⟩
 exact ⟨rfl, hd⟩

end Go.Proofs.YtcfhmbhlibhlnaaDoor.P
