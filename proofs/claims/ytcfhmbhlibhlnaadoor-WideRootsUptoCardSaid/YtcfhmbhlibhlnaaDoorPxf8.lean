-- Printed by this session's own pp.py (wip/tool) out of the translation.
import Derived.Test.YtcfhmbhlibhlnaaDoorPx0
import Derived.Test.YtcfhmbhlibhlnaaDoorPxe24
import Derived.Test.YtcfhmbhlibhlnaaDoorPxf29
import Derived.Test.YtcfhmbhlibhlnaaDoorPxf36
import Derived.Test.YtcfhmbhlibhlnaaDoorPxf37
namespace Go.Proofs.YtcfhmbhlibhlnaaDoor.P
open Go.RowKit Go.Proofs.YtcfhmbhlibhlnaaDoorW.PrintWords Go.Proofs.YtcfhmbhlibhlnaaDoorW.PrintLast Go.Proofs.YtcfhmbhlibhlnaaDoorW.PrintMore Go.Proofs.YtcfhmbhlibhlnaaDoor.Mine
attribute [local go_sem] ext71 ext79 eqA61 eqA62
attribute [local go_sem] max2_int min2_int max_two min_two max_three min_three max_four min_four   -- for this text's walks alone
set_option linter.unusedVariables false
set_option linter.unusedSimpArgs false

attribute [local go_sem high] eqA24
/-! ### tumblerlaw01_WideRoots: function 8 -/
def tumblerlaw01_WideRoots.f (k : Nat) (a0_0 : Int) (a0_1 : Int) : Option (Bool) := (wide_Root.f k a0_0 a0_1).bind fun bt509 => ((tumblerref01_Root.f k a0_0 a0_1).bind fun bt513 => (if (bt509.1 == bt513.1 && (bt509.2.1 == bt513.2.1)) = true then (if bt509.2.2 = bt513.2.2 then ((tumblerlaw01_alive.f k).bind fun t517 => (some t517)) else (some false)) else (some false)))
theorem tumblerlaw01_WideRoots.mono : ∀ a0 a1 k, LeO (tumblerlaw01_WideRoots.f k a0 a1) (tumblerlaw01_WideRoots.f (k + 1) a0 a1) := by
 intro a0 a1 k
 unfold tumblerlaw01_WideRoots.f
 repeat' first
  | (with_reducible exact tumblerlaw01_alive.mono _)
  | (with_reducible exact tumblerref01_Root.mono _ _ _)
  | (with_reducible exact wide_Root.mono _ _ _)
  | (with_reducible exact LeO.refl _)
  | (with_reducible exact LeO.none _)
  | (with_reducible refine LeO.ite ?_ ?_)
  | (with_reducible refine LeO.bind ?_ (fun _ => ?_))
  | exact tumblerlaw01_alive.mono _
  | exact tumblerref01_Root.mono _ _ _
  | exact wide_Root.mono _ _ _
  | exact LeO.none _
  | refine LeO.ite ?_ ?_
  | refine LeO.bind ?_ (fun _ => ?_)
set_option maxHeartbeats 8000000 in
set_option maxRecDepth 100000 in
theorem tumblerlaw01_WideRoots.calls (k : Nat) (a0_0 : Int) (a0_1 : Int) (r : Bool) (w : World) (hT : Aside0 (WF w)) (hr_ : Aside0 (r = true)) (h : tumblerlaw01_WideRoots.f k a0_0 a0_1 = some r) :
 Calls Tryd.prog 8 #[.agg #[.int .i64 a0_0, .int .u64 a0_1]] w fun e w' => e = .returned (.bool r) ∧ Below w.heap.size w w' := by
 have hu24 := Tryd.underlying24; have HB := am (Below.refl w.heap.size w); have H : ((wide_Root.f k a0_0 a0_1).bind fun bt509 => ((tumblerref01_Root.f k a0_0 a0_1).bind fun bt513 => (if (bt509.1 == bt513.1 && (bt509.2.1 == bt513.2.1)) = true then (if bt509.2.2 = bt513.2.2 then ((tumblerlaw01_alive.f k).bind fun t517 => (some t517)) else (some false)) else (some false)))) = some r := h; clear h
 replace H := Option.bind_eq_some_iff.mp H
 obtain ⟨⟨t509, t510, t511⟩, A20, H⟩ := H
 replace H : ((tumblerref01_Root.f k a0_0 a0_1).bind fun bt513 => (if (t509 == bt513.1 && (t510 == bt513.2.1)) = true then (if t511 = bt513.2.2 then ((tumblerlaw01_alive.f k).bind fun t517 => (some t517)) else (some false)) else (some false))) = some r := H
 have A2 := Aside0.mk A20; clear A20
 replace H := Option.bind_eq_some_iff.mp H
 obtain ⟨⟨t513, t514, t515⟩, A30, H⟩ := H
 replace H : (if (t509 == t513 && (t510 == t514)) = true then (if t511 = t515 then ((tumblerlaw01_alive.f k).bind fun t517 => (some t517)) else (some false)) else (some false)) = some r := H
 have A3 := Aside0.mk A30; clear A30
 by_cases c4 : (t509 == t513 && (t510 == t514)) = true
 · rw [if_pos c4] at H
   have c4b0 : (t509 == t513 && (t510 == t514)) = true := c4; (try (have c4b1 : decide (t509 = t513 && (t510 == t514)) = true := by simpa using c4)); (try (have c4b2 : (t509 == t513 && (t510 == t514)) = true := by simpa using c4)); clear c4
   by_cases c5 : t511 = t515
   · rw [if_pos c5] at H
     have c5b0 : (t511 == t515) = true := beq_iff_eq.mpr c5; have c5b1 : (t511 != t515) = false := bne_eq_false_iff_eq.mpr c5; clear c5
     replace H := Option.bind_eq_some_iff.mp H
     obtain ⟨t517, A60, H⟩ := H
     replace H : (some t517) = some r := H
     have A6 := Aside0.mk A60; clear A60
     obtain rfl := Option.some.inj H
     go_enter Tryd.func8, Tryd.ntmps8
     go_wp2_with (first | ((with_reducible refine gate_dst (N := 1) rfl ?_); refine box_event ?hg (N := 1) ?hd (cs := #[.int .i64 a0_0, .int .u64 a0_1]) (t := 24) ?hr ?_; (case hd => rfl); (case hg => rfl); (case hr => first | (go_simp; done) | (go_simp; rfl)); intro gb508 hg w7 hbox hb; have n0_ := am (below_step bz hb); have n1_ := am (hbox); have n2_ := am ((by rw [hg]; exact (below_size bz) : w.heap.size ≤ gb508)); have n3_ := am ((by rw [hg]; exact (below_size bz) : w.heap.size ≤ gb508)); clear HB; have HB := n0_; have BK508 := n1_; have GW508 := n2_; have GE508 := n3_; clear n0_ n1_ n2_ n3_; clear hb hbox hg; have hcz8_0 : w7.cell? ⟨gb508, 0, none⟩ = some (.int .i64 a0_0) := (blk_cell BK508.out 0).trans rfl; have hcz8_1 : w7.cell? ⟨gb508, 1, none⟩ = some (.int .u64 a0_1) := (blk_cell BK508.out 1).trans rfl; have hfz8_0 := blk_frozen BK508.out 0; have hfz8_1 := blk_frozen BK508.out 1) | ((with_reducible refine gate_callee (f := 36) rfl ?_); refine goesL_ (some 9) rfl rfl Tryd.func36 (by kernel_rfl) rfl #[.agg #[.int .i64 a0_0, .int .u64 a0_1]] rfl (by (try simp only [List.map_toArray, List.map_cons, List.map_nil]); first | done | rfl | (simp only [List.length_drop, List.length_take]; rfl)) ?_; (with_reducible refine (wide_Root.calls k a0_0 a0_1 t509 t510 t511 _ A2.out).mono ?_); rintro e w9 ⟨rfl, hb⟩; refine ⟨_, rfl, ?_⟩; have n0_ := am (bb BK508 hb); have n1_ := am (below_step bz hb); clear BK508; clear HB; have BK508 := n0_; have HB := n1_; clear n0_ n1_; (try clear hb); (try clear hb2); (try clear hk); (try clear hi)) | ((with_reducible refine gate_dst (N := 3) rfl ?_); refine box_event ?hg (N := 3) ?hd (cs := #[.int .i64 0, .int .u64 0]) (t := 24) ?hr ?_; (case hd => rfl); (case hg => rfl); (case hr => first | (go_simp; done) | (go_simp; rfl)); intro gb512 hg w10 hbox hb; have n0_ := am (bb BK508 hb); have n1_ := am (below_step bz hb); have n2_ := am (hbox); have n3_ := am ((by rw [hg]; exact (below_size bz) : w.heap.size ≤ gb512)); have n4_ := am ((by rw [hg]; exact (below_size bz) : w.heap.size ≤ gb512)); have n5_ := am ((by rw [hg]; exact Nat.ne_of_lt (bl BK508) : gb508 ≠ gb512)); have n6_ := am ((by rw [hg]; exact Nat.ne_of_gt (bl BK508) : gb512 ≠ gb508)); clear BK508; clear HB; have BK508 := n0_; have HB := n1_; have BK512 := n2_; have GW512 := n3_; have GE512 := n4_; have NB508_512 := n5_; have NB512_508 := n6_; clear n0_ n1_ n2_ n3_ n4_ n5_ n6_; clear hb hbox hg; have hnb11 := NB512_508.out; have hnc11 := NB508_512.out; have hcz12_0 : w10.cell? ⟨gb512, 0, none⟩ = some (.int .i64 0) := (blk_cell BK512.out 0).trans rfl; have hcz12_1 : w10.cell? ⟨gb512, 1, none⟩ = some (.int .u64 0) := (blk_cell BK512.out 1).trans rfl; have hfz12_0 := blk_frozen BK512.out 0; have hfz12_1 := blk_frozen BK512.out 1; have hcz13_0 : w10.cell? ⟨gb508, 0, none⟩ = some (.int .i64 a0_0) := (blk_cell BK508.out 0).trans rfl; have hcz13_1 : w10.cell? ⟨gb508, 1, none⟩ = some (.int .u64 a0_1) := (blk_cell BK508.out 1).trans rfl; have hfz13_0 := blk_frozen BK508.out 0; have hfz13_1 := blk_frozen BK508.out 1) | ((with_reducible refine gate_callee (f := 37) rfl ?_); refine goesL_ (some 14) rfl rfl Tryd.func37 (by kernel_rfl) rfl #[.agg #[.int .i64 a0_0, .int .u64 a0_1]] rfl (by (try simp only [List.map_toArray, List.map_cons, List.map_nil]); first | done | rfl | (simp only [List.length_drop, List.length_take]; rfl)) ?_; (with_reducible refine (tumblerref01_Root.calls k a0_0 a0_1 t513 t514 t515 _ A3.out).mono ?_); rintro e w14 ⟨rfl, hb⟩; refine ⟨_, rfl, ?_⟩; have n0_ := am (blk_below (g := gb508) (o := .cells #[.int .i64 a0_0, .int .u64 a0_1] 24 (0, 0)) (by (with_reducible repeat (first | apply bA | apply bB | apply bC)); refine blk_far ?_ NB508_512.out _; (with_reducible repeat (first | apply bA | apply bB | apply bC)); refine blk_far ?_ NB508_512.out _; (with_reducible repeat (first | apply bA | apply bB | apply bC)); exact BK508.out) hb); have n1_ := am (blk_below (g := gb512) (o := .cells #[.int .i64 t509, .int .u64 t510] 24 (0, 0)) (by (with_reducible repeat (first | apply bA | apply bB | apply bC)); refine blk_put (cs := #[.int .i64 t509, .int .u64 0]) ?_ 1 _ rfl; (with_reducible repeat (first | apply bA | apply bB | apply bC)); refine blk_put (cs := #[.int .i64 0, .int .u64 0]) ?_ 0 _ rfl; (with_reducible repeat (first | apply bA | apply bB | apply bC)); exact BK512.out) hb); have n2_ := am (below_step bz hb); clear BK508; clear BK512; clear HB; have BK508 := n0_; have BK512 := n1_; have HB := n2_; clear n0_ n1_ n2_; (try clear hb); (try clear hb2); (try clear hk); (try clear hi)) | ((with_reducible refine gate_dst (N := 5) rfl ?_); refine box_event ?hg (N := 5) ?hd (cs := #[.int .i64 0, .int .u64 0]) (t := 24) ?hr ?_; (case hd => rfl); (case hg => rfl); (case hr => first | (go_simp; done) | (go_simp; rfl)); intro gb516 hg w15 hbox hb; have n0_ := am (bb BK508 hb); have n1_ := am (bb BK512 hb); have n2_ := am (below_step bz hb); have n3_ := am (hbox); have n4_ := am ((by rw [hg]; exact (below_size bz) : w.heap.size ≤ gb516)); have n5_ := am ((by rw [hg]; exact (below_size bz) : w.heap.size ≤ gb516)); have n6_ := am ((by rw [hg]; exact Nat.ne_of_lt (bl BK508) : gb508 ≠ gb516)); have n7_ := am ((by rw [hg]; exact Nat.ne_of_gt (bl BK508) : gb516 ≠ gb508)); have n8_ := am ((by rw [hg]; exact Nat.ne_of_lt (bl BK512) : gb512 ≠ gb516)); have n9_ := am ((by rw [hg]; exact Nat.ne_of_gt (bl BK512) : gb516 ≠ gb512)); clear BK508; clear BK512; clear HB; have BK508 := n0_; have BK512 := n1_; have HB := n2_; have BK516 := n3_; have GW516 := n4_; have GE516 := n5_; have NB508_516 := n6_; have NB516_508 := n7_; have NB512_516 := n8_; have NB516_512 := n9_; clear n0_ n1_ n2_ n3_ n4_ n5_ n6_ n7_ n8_ n9_; clear hb hbox hg; have hnb16 := NB516_508.out; have hnc16 := NB508_516.out; have hnb17 := NB516_512.out; have hnc17 := NB512_516.out; have hcz18_0 : w15.cell? ⟨gb516, 0, none⟩ = some (.int .i64 0) := (blk_cell BK516.out 0).trans rfl; have hcz18_1 : w15.cell? ⟨gb516, 1, none⟩ = some (.int .u64 0) := (blk_cell BK516.out 1).trans rfl; have hfz18_0 := blk_frozen BK516.out 0; have hfz18_1 := blk_frozen BK516.out 1; have hcz19_0 : w15.cell? ⟨gb512, 0, none⟩ = some (.int .i64 t509) := (blk_cell BK512.out 0).trans rfl; have hcz19_1 : w15.cell? ⟨gb512, 1, none⟩ = some (.int .u64 t510) := (blk_cell BK512.out 1).trans rfl; have hfz19_0 := blk_frozen BK512.out 0; have hfz19_1 := blk_frozen BK512.out 1) | (go_at_call 29; (with_reducible refine (tumblerlaw01_alive.calls k  t517 _ (tN hT) A6.out).mono ?_); rintro e w20 ⟨rfl, hb⟩; have n0_ := am (blk_below (g := gb508) (o := .cells #[.int .i64 a0_0, .int .u64 a0_1] 24 (0, 0)) (by (with_reducible repeat (first | apply bA | apply bB | apply bC)); refine blk_far ?_ NB508_516.out _; (with_reducible repeat (first | apply bA | apply bB | apply bC)); refine blk_far ?_ NB508_516.out _; (with_reducible repeat (first | apply bA | apply bB | apply bC)); exact BK508.out) hb); have n1_ := am (blk_below (g := gb512) (o := .cells #[.int .i64 t509, .int .u64 t510] 24 (0, 0)) (by (with_reducible repeat (first | apply bA | apply bB | apply bC)); refine blk_far ?_ NB512_516.out _; (with_reducible repeat (first | apply bA | apply bB | apply bC)); refine blk_far ?_ NB512_516.out _; (with_reducible repeat (first | apply bA | apply bB | apply bC)); exact BK512.out) hb); have n2_ := am (blk_below (g := gb516) (o := .cells #[.int .i64 t513, .int .u64 t514] 24 (0, 0)) (by (with_reducible repeat (first | apply bA | apply bB | apply bC)); refine blk_put (cs := #[.int .i64 t513, .int .u64 0]) ?_ 1 _ rfl; (with_reducible repeat (first | apply bA | apply bB | apply bC)); refine blk_put (cs := #[.int .i64 0, .int .u64 0]) ?_ 0 _ rfl; (with_reducible repeat (first | apply bA | apply bB | apply bC)); exact BK516.out) hb); have n3_ := am (below_step bz hb); clear BK508; clear BK512; clear BK516; clear HB; have BK508 := n0_; have BK512 := n1_; have BK516 := n2_; have HB := n3_; clear n0_ n1_ n2_ n3_; (try clear hb); (try clear hb2); (try clear hk); (try clear hi)))
     go_ret
     exact ⟨by first | rfl | (simp [errW_none, errW_some] <;> rfl) | (simp [*, errW_none, errW_some] <;> rfl), by repeat (first | (with_reducible first | exact HB.out | apply dA | apply dB | apply dC | refine dE ?_ ‹_›) | exact HB.out)⟩
   · rw [if_neg c5] at H
     have c5b0 : (t511 == t515) = false := beq_eq_false_iff_ne.mpr c5; have c5b1 : (t511 != t515) = true := bne_iff_ne.mpr c5
     exact Bool.noConfusion ((Option.some.inj H).trans hr_.out)
 · rw [if_neg c4] at H
   have c4b0 : (t509 == t513 && (t510 == t514)) = false := by simpa using c4
   (try (have c4b1 : decide (t509 = t513 && (t510 == t514)) = false := by simpa using c4)); (try (have c4b2 : (t509 == t513 && (t510 == t514)) = false := by simpa using c4)); (try (have c4b3 : ¬ (t509 = t513 && (t510 == t514)) := by simpa using c4)); clear c4
   exact Bool.noConfusion ((Option.some.inj H).trans hr_.out)

/-- THE ONE PURE STATEMENT of tumblerlaw01_WideRoots: yours. -/
def tumblerlaw01_WideRoots.Pure : Prop := ∀ (a0_0 : Int) (a0_1 : Int), (Lit.int .i64 a0_0).wf = true → (Lit.int .u64 a0_1).wf = true → ∃ k, tumblerlaw01_WideRoots.f k a0_0 a0_1 = some true
theorem tumblerlaw01_WideRoots.walk (P : tumblerlaw01_WideRoots.Pure) (a0_0 : Int) (a0_1 : Int) (w : World) (hT : Aside0 (WF w)) (w0_0 : (Lit.int .i64 a0_0).wf = true) (w0_1 : (Lit.int .u64 a0_1).wf = true) :
 Calls Tryd.prog 8 #[.agg #[.int .i64 a0_0, .int .u64 a0_1]] w fun e w' => e = .returned (.bool true) ∧ Below w.heap.size w w' := by
 obtain ⟨k, h⟩ := P a0_0 a0_1 w0_0 w0_1
 refine (tumblerlaw01_WideRoots.calls k a0_0 a0_1 true w hT ⟨rfl⟩ h).mono ?_
 rintro e w' ⟨rfl, hd⟩
 exact ⟨rfl, hd⟩

end Go.Proofs.YtcfhmbhlibhlnaaDoor.P
