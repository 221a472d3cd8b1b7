-- Printed by this session's own pp.py (wip/tool) out of the translation.
import Derived.Test.YtifhebempfjcmaaPx0
import Derived.Test.YtifhebempfjcmaaPxf17
import Derived.Test.YtifhebempfjcmaaPxf30
namespace Go.Proofs.Ytifhebempfjcmaa.P
open Go.RowKit Go.Proofs.YtifhebempfjcmaaW.PrintWords Go.Proofs.YtifhebempfjcmaaW.PrintLast Go.Proofs.YtifhebempfjcmaaW.PrintMore Go.Proofs.Ytifhebempfjcmaa.Mine
attribute [local go_sem] ext45 ext46
attribute [local go_sem] max2_int min2_int max_two min_two max_three min_three max_four min_four   -- for this text's walks alone
set_option linter.unusedVariables false
set_option linter.unusedSimpArgs false

/-! ### tumblerref02_Fits: function 14 -/
def tumblerref02_Fits.f (k : Nat) (a0_0 : Int) (a0_1 : Int) : Option (Int × Bool) := (tumblerref02_Amount.f a0_0 a0_1).bind fun bt119 => ((tumblerref02_Small.f k bt119.1 bt119.2.1 bt119.2.2.1 bt119.2.2.2).bind fun bt124 => (some (bt124.1, bt124.2)))
theorem tumblerref02_Fits.mono : ∀ a0 a1 k, LeO (tumblerref02_Fits.f k a0 a1) (tumblerref02_Fits.f (k + 1) a0 a1) := by
 intro a0 a1 k
 unfold tumblerref02_Fits.f
 repeat' first
  | (with_reducible exact tumblerref02_Small.mono _ _ _ _ _)
  | (with_reducible exact LeO.refl _)
  | (with_reducible exact LeO.none _)
  | (with_reducible refine LeO.ite ?_ ?_)
  | (with_reducible refine LeO.bind ?_ (fun _ => ?_))
  | exact tumblerref02_Small.mono _ _ _ _ _
  | exact LeO.none _
  | refine LeO.ite ?_ ?_
  | refine LeO.bind ?_ (fun _ => ?_)
set_option maxHeartbeats 8000000 in
set_option maxRecDepth 100000 in
theorem tumblerref02_Fits.calls (k : Nat) (a0_0 : Int) (a0_1 : Int) (r1 : Int) (r2 : Bool) (w : World) (h : tumblerref02_Fits.f k a0_0 a0_1 = some (r1, r2)) :
 Calls Try.prog 14 #[.agg #[.int .i64 a0_0, .int .u64 a0_1]] w fun e w' => e = .returned (.tuple #[.int .i64 r1, .bool r2]) ∧ Below w.heap.size w w' := by
 have hu24 := Try.underlying24; have hu35 := Try.underlying35; have HB := am (Below.refl w.heap.size w); have H : ((tumblerref02_Amount.f a0_0 a0_1).bind fun bt119 => ((tumblerref02_Small.f k bt119.1 bt119.2.1 bt119.2.2.1 bt119.2.2.2).bind fun bt124 => (some (bt124.1, bt124.2)))) = some (r1, r2) := h; clear h
 replace H := Option.bind_eq_some_iff.mp H
 obtain ⟨⟨t119, t120, t121, t122⟩, A20, H⟩ := H
 replace H : ((tumblerref02_Small.f k t119 t120 t121 t122).bind fun bt124 => (some (bt124.1, bt124.2))) = some (r1, r2) := H
 have A2 := Aside0.mk A20; clear A20
 replace H := Option.bind_eq_some_iff.mp H
 obtain ⟨⟨t124, t125⟩, A30, H⟩ := H
 replace H : (some (t124, t125)) = some (r1, r2) := H
 have A3 := Aside0.mk A30; clear A30
 simp only [Option.some.injEq, Prod.mk.injEq] at H
 obtain ⟨rfl, rfl⟩ := H
 go_enter Try.func14, Try.ntmps14
 go_wp2_with (first | ((with_reducible refine gate_dst (N := 1) rfl ?_); refine box_event ?hg (N := 1) ?hd (cs := #[.int .i64 a0_0, .int .u64 a0_1]) (t := 24) ?hr ?_; (case hd => rfl); (case hg => rfl); (case hr => first | (go_simp; done) | (go_simp; rfl)); intro gb118 hg w4 hbox hb; have n0_ := am (below_step (by repeat (first | (with_reducible first | exact HB.out | apply dA | apply dB | apply dC) | exact HB.out)) hb); have n1_ := am (hbox); have n2_ := am ((by rw [hg]; exact (below_size (by repeat (first | (with_reducible first | exact HB.out | apply dA | apply dB | apply dC) | exact HB.out))) : w.heap.size ≤ gb118)); have n3_ := am ((by rw [hg]; exact (below_size (by repeat (first | (with_reducible first | exact HB.out | apply dA | apply dB | apply dC) | exact HB.out))) : w.heap.size ≤ gb118)); clear HB; have HB := n0_; have BK118 := n1_; have GW118 := n2_; have GE118 := n3_; clear n0_ n1_ n2_ n3_; clear hb hbox hg; have hcz5_0 : w4.cell? ⟨gb118, 0, none⟩ = some (.int .i64 a0_0) := (blk_cell BK118.out 0).trans rfl; have hcz5_1 : w4.cell? ⟨gb118, 1, none⟩ = some (.int .u64 a0_1) := (blk_cell BK118.out 1).trans rfl; have hfz5_0 := blk_frozen BK118.out 0; have hfz5_1 := blk_frozen BK118.out 1) | ((with_reducible refine gate_callee (f := 17) rfl ?_); refine goesL_ (some 8) rfl rfl Try.func17 (by kernel_rfl) rfl #[.agg #[.int .i64 a0_0, .int .u64 a0_1]] rfl (by (try simp only [List.map_toArray, List.map_cons, List.map_nil]); first | done | rfl | (simp only [List.length_drop, List.length_take]; rfl)) ?_; (with_reducible refine (tumblerref02_Amount.calls a0_0 a0_1 t119 t120 t121 t122 _ A2.out).mono ?_); rintro e w6 ⟨rfl, hb⟩; refine ⟨_, rfl, ?_⟩; have n0_ := am (blk_below (g := gb118) (o := .cells #[.int .i64 a0_0, .int .u64 a0_1] 24 (0, 0)) (by (with_reducible repeat (first | apply bA | apply bB | apply bC)); exact BK118.out) hb); have n1_ := am (below_step (by repeat (first | (with_reducible first | exact HB.out | apply dA | apply dB | apply dC | refine dE ?_ ‹_›) | exact HB.out)) hb); clear BK118; clear HB; have BK118 := n0_; have HB := n1_; clear n0_ n1_; (try clear hb); (try clear hb2); (try clear hk); (try clear hi)) | ((with_reducible refine gate_dst (N := 4) rfl ?_); refine box_event ?hg (N := 4) ?hd (cs := #[.int .u64 0, .int .u64 0, .bool false]) (t := 35) ?hr ?_; (case hd => rfl); (case hg => rfl); (case hr => first | (go_simp; done) | (go_simp; rfl)); intro gb123 hg w7 hbox hb; have n0_ := am (blk_below (g := gb118) (o := .cells #[.int .i64 a0_0, .int .u64 a0_1] 24 (0, 0)) (by (with_reducible repeat (first | apply bA | apply bB | apply bC)); exact BK118.out) hb); have n1_ := am (below_step (by repeat (first | (with_reducible first | exact HB.out | apply dA | apply dB | apply dC | refine dE ?_ ‹_›) | exact HB.out)) hb); have n2_ := am (hbox); have n3_ := am ((by rw [hg]; exact (below_size (by repeat (first | (with_reducible first | exact HB.out | apply dA | apply dB | apply dC | refine dE ?_ ‹_›) | exact HB.out))) : w.heap.size ≤ gb123)); have n4_ := am ((by rw [hg]; exact (below_size (by repeat (first | (with_reducible first | exact HB.out | apply dA | apply dB | apply dC | refine dE ?_ ‹_›) | exact HB.out))) : w.heap.size ≤ gb123)); have n5_ := am ((by rw [hg]; exact Nat.ne_of_lt (blk_lt (g := gb118) (o := .cells #[.int .i64 a0_0, .int .u64 a0_1] 24 (0, 0)) (by (with_reducible repeat (first | apply bA | apply bB | apply bC)); exact BK118.out)) : gb118 ≠ gb123)); have n6_ := am ((by rw [hg]; exact Nat.ne_of_gt (blk_lt (g := gb118) (o := .cells #[.int .i64 a0_0, .int .u64 a0_1] 24 (0, 0)) (by (with_reducible repeat (first | apply bA | apply bB | apply bC)); exact BK118.out)) : gb123 ≠ gb118)); clear BK118; clear HB; have BK118 := n0_; have HB := n1_; have BK123 := n2_; have GW123 := n3_; have GE123 := n4_; have NB118_123 := n5_; have NB123_118 := n6_; clear n0_ n1_ n2_ n3_ n4_ n5_ n6_; clear hb hbox hg; have hnb8 := NB123_118.out; have hnc8 := NB118_123.out; have hcz9_0 : w7.cell? ⟨gb123, 0, none⟩ = some (.int .u64 0) := (blk_cell BK123.out 0).trans rfl; have hcz9_1 : w7.cell? ⟨gb123, 1, none⟩ = some (.int .u64 0) := (blk_cell BK123.out 1).trans rfl; have hcz9_2 : w7.cell? ⟨gb123, 2, none⟩ = some (.bool false) := (blk_cell BK123.out 2).trans rfl; have hfz9_0 := blk_frozen BK123.out 0; have hfz9_1 := blk_frozen BK123.out 1; have hfz9_2 := blk_frozen BK123.out 2) | ((with_reducible refine gate_callee (f := 30) rfl ?_); refine goesL_ (some 13) rfl rfl Try.func30 (by kernel_rfl) rfl #[.agg #[.int .u64 t119, .int .u64 t120, .bool t121], .bool t122] rfl (by (try simp only [List.map_toArray, List.map_cons, List.map_nil]); first | done | rfl | (simp only [List.length_drop, List.length_take]; rfl)) ?_; (with_reducible refine (tumblerref02_Small.calls k t119 t120 t121 t122 t124 t125 _ A3.out).mono ?_); rintro e w10 ⟨rfl, hb⟩; refine ⟨_, rfl, ?_⟩; have n0_ := am (blk_below (g := gb118) (o := .cells #[.int .i64 a0_0, .int .u64 a0_1] 24 (0, 0)) (by (with_reducible repeat (first | apply bA | apply bB | apply bC)); refine blk_far ?_ NB118_123.out _; (with_reducible repeat (first | apply bA | apply bB | apply bC)); refine blk_far ?_ NB118_123.out _; (with_reducible repeat (first | apply bA | apply bB | apply bC)); refine blk_far ?_ NB118_123.out _; (with_reducible repeat (first | apply bA | apply bB | apply bC)); exact BK118.out) hb); have n1_ := am (blk_below (g := gb123) (o := .cells #[.int .u64 t119, .int .u64 t120, .bool t121] 35 (0, 0)) (by (with_reducible repeat (first | apply bA | apply bB | apply bC)); refine blk_put (cs := #[.int .u64 t119, .int .u64 t120, .bool false]) ?_ 2 _ rfl; (with_reducible repeat (first | apply bA | apply bB | apply bC)); refine blk_put (cs := #[.int .u64 t119, .int .u64 0, .bool false]) ?_ 1 _ rfl; (with_reducible repeat (first | apply bA | apply bB | apply bC)); refine blk_put (cs := #[.int .u64 0, .int .u64 0, .bool false]) ?_ 0 _ rfl; (with_reducible repeat (first | apply bA | apply bB | apply bC)); exact BK123.out) hb); have n2_ := am (below_step (by repeat (first | (with_reducible first | exact HB.out | apply dA | apply dB | apply dC | refine dE ?_ ‹_›) | exact HB.out)) hb); clear BK118; clear BK123; clear HB; have BK118 := n0_; have BK123 := n1_; have HB := n2_; clear n0_ n1_ n2_; (try clear hb); (try clear hb2); (try clear hk); (try clear hi)))
 go_ret2
 exact ⟨by first | rfl | (simp [errW_none, errW_some] <;> rfl) | (simp [*, errW_none, errW_some] <;> rfl), by repeat (first | (with_reducible first | exact HB.out | apply dA | apply dB | apply dC | refine dE ?_ ‹_›) | exact HB.out)⟩

end Go.Proofs.Ytifhebempfjcmaa.P
