-- Printed by this session's own pp.py (wip/tool) out of the translation.
import Derived.Test.YtcfhmbhlibhlnaaDoorPx0
namespace Go.Proofs.YtcfhmbhlibhlnaaDoor.P
open Go.RowKit Go.Proofs.YtcfhmbhlibhlnaaDoorW.PrintWords Go.Proofs.YtcfhmbhlibhlnaaDoorW.PrintLast Go.Proofs.YtcfhmbhlibhlnaaDoorW.PrintMore Go.Proofs.YtcfhmbhlibhlnaaDoor.Mine
attribute [local go_sem] ext71 ext79 eqA61 eqA62
attribute [local go_sem] max2_int min2_int max_two min_two max_three min_three max_four min_four   -- for this text's walks alone
set_option linter.unusedVariables false
set_option linter.unusedSimpArgs false

/-! ### tumblerref02_Of: function 90 -/
def tumblerref02_Of.f (a0 : Int) : Option (Int × Int × Bool × Bool) := if a0 < 0 then (some (0, IntKind.u64.wrap ((IntKind.u64.wrap (wrap64 (-(wrap64 (a0 + 1))))) + 1), false, true)) else (some (0, IntKind.u64.wrap (a0), false, false))
set_option maxHeartbeats 8000000 in
set_option maxRecDepth 100000 in
theorem tumblerref02_Of.calls (a0 : Int) (r1 : Int) (r2 : Int) (r3 : Bool) (r4 : Bool) (w : World) (h : tumblerref02_Of.f a0 = some (r1, r2, r3, r4)) :
 Calls Tryd.prog 90 #[.int .i64 a0] w fun e w' => e = .returned (.tuple #[.agg #[.int .u64 r1, .int .u64 r2, .bool r3], .bool r4]) ∧ Below w.heap.size w w' := by
 have hu93 := Tryd.underlying93; have HB := am (Below.refl w.heap.size w); have H : (if a0 < 0 then (some (0, IntKind.u64.wrap ((IntKind.u64.wrap (wrap64 (-(wrap64 (a0 + 1))))) + 1), false, true)) else (some (0, IntKind.u64.wrap (a0), false, false))) = some (r1, r2, r3, r4) := h; clear h
 by_cases c2 : a0 < 0
 · rw [if_pos c2] at H
   have c2b0 : decide (a0 < 0) = true := decide_eq_true c2; clear c2
   simp only [Option.some.injEq, Prod.mk.injEq] at H
   obtain ⟨rfl, rfl, rfl, rfl⟩ := H
   go_enter Tryd.func90, Tryd.ntmps90
   go_wp2_with (first | ((with_reducible refine gate_dst (N := 2) rfl ?_); refine box_event ?hg (N := 2) ?hd (cs := #[.int .u64 0, .int .u64 0, .bool false]) (t := 93) ?hr ?_; (case hd => rfl); (case hg => rfl); (case hr => first | (go_simp; done) | (go_simp; rfl)); intro gb1000 hg w3 hbox hb; have n0_ := am (below_step bz hb); have n1_ := am (hbox); have n2_ := am ((by rw [hg]; exact (below_size bz) : w.heap.size ≤ gb1000)); have n3_ := am ((by rw [hg]; exact (below_size bz) : w.heap.size ≤ gb1000)); clear HB; have HB := n0_; have BK1000 := n1_; have GW1000 := n2_; have GE1000 := n3_; clear n0_ n1_ n2_ n3_; clear hb hbox hg; have hcz4_0 : w3.cell? ⟨gb1000, 0, none⟩ = some (.int .u64 0) := (blk_cell BK1000.out 0).trans rfl; have hcz4_1 : w3.cell? ⟨gb1000, 1, none⟩ = some (.int .u64 0) := (blk_cell BK1000.out 1).trans rfl; have hcz4_2 : w3.cell? ⟨gb1000, 2, none⟩ = some (.bool false) := (blk_cell BK1000.out 2).trans rfl; have hfz4_0 := blk_frozen BK1000.out 0; have hfz4_1 := blk_frozen BK1000.out 1; have hfz4_2 := blk_frozen BK1000.out 2))
   refine bodyPost_ret (results_ct rfl _ _ gb1000 93 #[.int .u64 0, .int .u64 (IntKind.u64.wrap ((IntKind.u64.wrap (wrap64 (-(wrap64 (a0 + 1))))) + 1)), .bool false] (0, 0) _ rfl (by (with_reducible repeat (first | apply bA | apply bB | apply bC)); refine blk_put (cs := #[.int .u64 0, .int .u64 (IntKind.u64.wrap ((IntKind.u64.wrap (wrap64 (-(wrap64 (a0 + 1))))) + 1)), .bool false]) ?_ 2 _ rfl; (with_reducible repeat (first | apply bA | apply bB | apply bC)); refine blk_put (cs := #[.int .u64 0, .int .u64 0, .bool false]) ?_ 1 _ rfl; (with_reducible repeat (first | apply bA | apply bB | apply bC)); refine blk_put (cs := #[.int .u64 0, .int .u64 0, .bool false]) ?_ 0 _ rfl; (with_reducible repeat (first | apply bA | apply bB | apply bC)); exact BK1000.out) Tryd.underlying93 rfl (by kernel_rfl)) rfl ?_
   exact ⟨by first | rfl | (simp [errW_none, errW_some] <;> rfl) | (simp [*, errW_none, errW_some] <;> rfl), by repeat (first | (with_reducible first | exact HB.out | apply dA | apply dB | apply dC | refine dE ?_ ‹_›) | exact HB.out)⟩
 · rw [if_neg c2] at H
   have c2b0 : decide (a0 < 0) = false := decide_eq_false c2; clear c2
   simp only [Option.some.injEq, Prod.mk.injEq] at H
   obtain ⟨rfl, rfl, rfl, rfl⟩ := H
   go_enter Tryd.func90, Tryd.ntmps90
   go_wp2_with (first | ((with_reducible refine gate_dst (N := 2) rfl ?_); refine box_event ?hg (N := 2) ?hd (cs := #[.int .u64 0, .int .u64 0, .bool false]) (t := 93) ?hr ?_; (case hd => rfl); (case hg => rfl); (case hr => first | (go_simp; done) | (go_simp; rfl)); intro gb1000 hg w5 hbox hb; have n0_ := am (below_step bz hb); have n1_ := am (hbox); have n2_ := am ((by rw [hg]; exact (below_size bz) : w.heap.size ≤ gb1000)); have n3_ := am ((by rw [hg]; exact (below_size bz) : w.heap.size ≤ gb1000)); clear HB; have HB := n0_; have BK1000 := n1_; have GW1000 := n2_; have GE1000 := n3_; clear n0_ n1_ n2_ n3_; clear hb hbox hg; have hcz6_0 : w5.cell? ⟨gb1000, 0, none⟩ = some (.int .u64 0) := (blk_cell BK1000.out 0).trans rfl; have hcz6_1 : w5.cell? ⟨gb1000, 1, none⟩ = some (.int .u64 0) := (blk_cell BK1000.out 1).trans rfl; have hcz6_2 : w5.cell? ⟨gb1000, 2, none⟩ = some (.bool false) := (blk_cell BK1000.out 2).trans rfl; have hfz6_0 := blk_frozen BK1000.out 0; have hfz6_1 := blk_frozen BK1000.out 1; have hfz6_2 := blk_frozen BK1000.out 2))
   refine bodyPost_ret (results_ct rfl _ _ gb1000 93 #[.int .u64 0, .int .u64 (IntKind.u64.wrap (a0)), .bool false] (0, 0) _ rfl (by (with_reducible repeat (first | apply bA | apply bB | apply bC)); refine blk_put (cs := #[.int .u64 0, .int .u64 (IntKind.u64.wrap (a0)), .bool false]) ?_ 2 _ rfl; (with_reducible repeat (first | apply bA | apply bB | apply bC)); refine blk_put (cs := #[.int .u64 0, .int .u64 0, .bool false]) ?_ 1 _ rfl; (with_reducible repeat (first | apply bA | apply bB | apply bC)); refine blk_put (cs := #[.int .u64 0, .int .u64 0, .bool false]) ?_ 0 _ rfl; (with_reducible repeat (first | apply bA | apply bB | apply bC)); exact BK1000.out) Tryd.underlying93 rfl (by kernel_rfl)) rfl ?_
   exact ⟨by first | rfl | (simp [errW_none, errW_some] <;> rfl) | (simp [*, errW_none, errW_some] <;> rfl), by repeat (first | (with_reducible first | exact HB.out | apply dA | apply dB | apply dC | refine dE ?_ ‹_›) | exact HB.out)⟩

end Go.Proofs.YtcfhmbhlibhlnaaDoor.P
