-- Printed by this session's own pp.py (wip/tool) out of the translation.
import Derived.Test.YtcfhmbhlibhlnaaDoorPx0
namespace Go.Proofs.YtcfhmbhlibhlnaaDoor.P
open Go.RowKit Go.Proofs.YtcfhmbhlibhlnaaDoorW.PrintWords Go.Proofs.YtcfhmbhlibhlnaaDoorW.PrintLast Go.Proofs.YtcfhmbhlibhlnaaDoorW.PrintMore Go.Proofs.YtcfhmbhlibhlnaaDoor.Mine
attribute [local go_sem] ext71 ext79 eqA61 eqA62
attribute [local go_sem] max2_int min2_int max_two min_two max_three min_three max_four min_four   -- for this text's walks alone
set_option linter.unusedVariables false
set_option linter.unusedSimpArgs false

/-! ### tumblerref02_Of: function 90 -/
def tumblerref02_Of.f (a0 : Int) : Option (Int × Int × Bool × Bool) := if a0 < 0 then (some (0, IntKind.u64.wrap ((IntKind.u64.wrap (wrap64 (-(wrap64 (a0 + 1))))) + 1), false, true)) else (some (0, IntKind.u64.wrap (a0), false, false))
set_option maxHeartbeats 8000000 in
set_option maxRecDepth 100000 in
theorem tumblerref02_Of.calls (a0 : Int) (r1 : Int) (r2 : Int) (r3 : Bool) (r4 : Bool) (w : World) (h : tumblerref02_Of.f a0 = some (r1, r2, r3, r4)) :
 Calls Tryd.prog 90 #[.int .i64 a0] w fun e w' => e = .returned (.tuple #[.agg #[.int .u64 r1, .int .u64 r2, .bool r3], .bool r4]) ∧ Below w.heap.size w w' := by
 have hu93 := Tryd.underlying93; have HB := am (Below.refl w.heap.size w); have H : (if a0 < 0 then (some (0, IntKind.u64.wrap ((IntKind.u64.wrap (wrap64 (-(wrap64 (a0 + 1))))) + 1), false, true)) else (some (0, IntKind.u64.wrap (a0), false, false))) = some (r1, r2, r3, r4) := h; clear h
 by_cases c2 : a0 < 0
 · rw [if_pos c2] at H
   have c2b0 : decide (a0 < 0) = true := decide_eq_true c2; clear c2
   simp only [Option.some.injEq, Prod.mk.injEq] at H
   obtain ⟨rfl, rfl, rfl, rfl⟩ := H
   go_enter Tryd.func90, Tryd.ntmps90
   go_wp2_with (first | ((with_reducible refine gate_dst (N := 2) rfl ?_); refine box_event (by rfl) (N := 2) (by rfl) (cs := #[.int .u64 0, .int .u64 0, .bool false]) (t := 93) (by go_simp <;> rfl) ?_; intro gb1000 hg w3 hbox hb; have BK1000 := am (hbox); have GW1000 := gw w hg; replace HB := am (below_step bz hb); clear hb hbox hg; have hcz4_0 : w3.cell? ⟨gb1000, 0, none⟩ = some (.int .u64 0) := bc BK1000 0; have hcz4_1 : w3.cell? ⟨gb1000, 1, none⟩ = some (.int .u64 0) := bc BK1000 1; have hcz4_2 : w3.cell? ⟨gb1000, 2, none⟩ = some (.bool false) := bc BK1000 2; have hfz4_0 := blk_frozen BK1000.out 0; have hfz4_1 := blk_frozen BK1000.out 1; have hfz4_2 := blk_frozen BK1000.out 2))
   refine bodyPost_ret (results_ct rfl _ _ gb1000 93 #[.int .u64 0, .int .u64 (IntKind.u64.wrap ((IntKind.u64.wrap (wrap64 (-(wrap64 (a0 + 1))))) + 1)), .bool false] (0, 0) _ rfl (blk_put (blk_put (blk_put BK1000.out 0 _ rfl) 1 _ rfl) 2 _ rfl) Tryd.underlying93 rfl (by kernel_rfl)) rfl ?_
   exact ⟨rg, bz⟩
 · rw [if_neg c2] at H
   have c2b0 : decide (a0 < 0) = false := decide_eq_false c2; clear c2
   simp only [Option.some.injEq, Prod.mk.injEq] at H
   obtain ⟨rfl, rfl, rfl, rfl⟩ := H
   go_enter Tryd.func90, Tryd.ntmps90
   go_wp2_with (first | ((with_reducible refine gate_dst (N := 2) rfl ?_); refine box_event (by rfl) (N := 2) (by rfl) (cs := #[.int .u64 0, .int .u64 0, .bool false]) (t := 93) (by go_simp <;> rfl) ?_; intro gb1000 hg w5 hbox hb; have BK1000 := am (hbox); have GW1000 := gw w hg; replace HB := am (below_step bz hb); clear hb hbox hg; have hcz6_0 : w5.cell? ⟨gb1000, 0, none⟩ = some (.int .u64 0) := bc BK1000 0; have hcz6_1 : w5.cell? ⟨gb1000, 1, none⟩ = some (.int .u64 0) := bc BK1000 1; have hcz6_2 : w5.cell? ⟨gb1000, 2, none⟩ = some (.bool false) := bc BK1000 2; have hfz6_0 := blk_frozen BK1000.out 0; have hfz6_1 := blk_frozen BK1000.out 1; have hfz6_2 := blk_frozen BK1000.out 2))
   refine bodyPost_ret (results_ct rfl _ _ gb1000 93 #[.int .u64 0, .int .u64 (IntKind.u64.wrap (a0)), .bool false] (0, 0) _ rfl (blk_put (blk_put (blk_put BK1000.out 0 _ rfl) 1 _ rfl) 2 _ rfl) Tryd.underlying93 rfl (by kernel_rfl)) rfl ?_
   exact ⟨rg, bz⟩

end Go.Proofs.YtcfhmbhlibhlnaaDoor.P
