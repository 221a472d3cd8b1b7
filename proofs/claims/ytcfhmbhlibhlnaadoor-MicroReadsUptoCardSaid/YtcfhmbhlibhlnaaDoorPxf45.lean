-- Printed by this session's own pp.py (wip/tool) out of the translation.
import Derived.Test.YtcfhmbhlibhlnaaDoorPx0
import Derived.Test.YtcfhmbhlibhlnaaDoorPxg0
namespace Go.Proofs.YtcfhmbhlibhlnaaDoor.P
open Go.RowKit Go.Proofs.YtcfhmbhlibhlnaaDoorW.PrintWords Go.Proofs.YtcfhmbhlibhlnaaDoorW.PrintLast Go.Proofs.YtcfhmbhlibhlnaaDoorW.PrintMore Go.Proofs.YtcfhmbhlibhlnaaDoor.Mine
attribute [local go_sem] ext71 ext79 eqA61 eqA62
attribute [local go_sem] max2_int min2_int max_two min_two max_three min_three max_four min_four   -- for this text's walks alone
set_option linter.unusedVariables false
set_option linter.unusedSimpArgs false

/-! ### wide_Abs: function 45 -/
def wide_Abs.f (a0_0 : Int) (a0_1 : Int) : Option (Int × Int × Int) := if a0_0 < 0 then ((wide_Neg.f a0_0 a0_1).bind fun bt730 => (some (bt730.1, bt730.2.1, bt730.2.2))) else (some (a0_0, a0_1, 0))
set_option maxHeartbeats 8000000 in
set_option maxRecDepth 100000 in
theorem wide_Abs.calls (a0_0 : Int) (a0_1 : Int) (r1 : Int) (r2 : Int) (r3 : Int) (w : World) (h : wide_Abs.f a0_0 a0_1 = some (r1, r2, r3)) :
 Calls Tryd.prog 45 #[.agg #[.int .i64 a0_0, .int .u64 a0_1]] w fun e w' => e = .returned (.tuple #[.agg #[.int .i64 r1, .int .u64 r2], .int .i64 r3]) ∧ Below w.heap.size w w' := by
 have hu24 := Tryd.underlying24; have HB := am (Below.refl w.heap.size w); have H : (if a0_0 < 0 then ((wide_Neg.f a0_0 a0_1).bind fun bt730 => (some (bt730.1, bt730.2.1, bt730.2.2))) else (some (a0_0, a0_1, 0))) = some (r1, r2, r3) := h; clear h
 by_cases c2 : a0_0 < 0
 · rw [if_pos c2] at H
   have c2b0 : decide (a0_0 < 0) = true := decide_eq_true c2; clear c2
   replace H := Option.bind_eq_some_iff.mp H
   obtain ⟨⟨t730, t731, t732⟩, A30, H⟩ := H
   replace H : (some (t730, t731, t732)) = some (r1, r2, r3) := H
   have A3 := Aside0.mk A30; clear A30
   simp only [Option.some.injEq, Prod.mk.injEq] at H
   obtain ⟨rfl, rfl, rfl⟩ := H
   go_enter Tryd.func45, Tryd.ntmps45
   go_wp2_with (first | ((with_reducible refine gate_dst (N := 1) rfl ?_); refine box_event (by rfl) (N := 1) (by rfl) (cs := #[.int .i64 a0_0, .int .u64 a0_1]) (t := 24) (by go_simp <;> rfl) ?_; intro gb728 hg w4 hbox hb; have BK728 := am (hbox); have GW728 := gw w hg; replace HB := am (below_step bz hb); clear hb hbox hg) | ((with_reducible refine gate_dst (N := 2) rfl ?_); refine box_event (by rfl) (N := 2) (by rfl) (cs := #[.int .i64 0, .int .u64 0]) (t := 24) (by go_simp <;> rfl) ?_; intro gb729 hg w5 hbox hb; have BK729 := am (hbox); have GW729 := gw w hg; replace HB := am (below_step bz hb); have NB728_729 := nl BK728 hg; have NB729_728 := nr BK728 hg; replace BK728 := am (bb BK728 hb); clear hb hbox hg; have hnb6 := NB728_729.out; have hnc6 := NB729_728.out; have hcz7_0 : w5.cell? ⟨gb728, 0, none⟩ = some (.int .i64 a0_0) := bc BK728 0; have hcz7_1 : w5.cell? ⟨gb728, 1, none⟩ = some (.int .u64 a0_1) := bc BK728 1; have hfz7_0 := blk_frozen BK728.out 0; have hfz7_1 := blk_frozen BK728.out 1) | ((with_reducible refine gate_callee (f := 43) rfl ?_); refine goesL_ (some 8) rfl rfl Tryd.func43 (by kernel_rfl) rfl #[.agg #[.int .i64 a0_0, .int .u64 a0_1]] rfl rf ?_; (with_reducible refine (wide_Neg.calls a0_0 a0_1 t730 t731 t732 _ A3.out).mono ?_); rintro e w8 ⟨rfl, hb⟩; refine ⟨_, rfl, ?_⟩; replace BK728 := am (bb BK728 hb); replace BK729 := am (bb BK729 hb); replace HB := am (below_step bz hb); (try clear hb); (try clear hb2); (try clear hk); (try clear hi); have hcz9_0 : w8.cell? ⟨gb729, 0, none⟩ = some (.int .i64 0) := bc BK729 0; have hcz9_1 : w8.cell? ⟨gb729, 1, none⟩ = some (.int .u64 0) := bc BK729 1; have hfz9_0 := blk_frozen BK729.out 0; have hfz9_1 := blk_frozen BK729.out 1))
   refine bodyPost_ret (results_ct rfl _ _ gb729 24 #[.int .i64 t730, .int .u64 t731] (0, 0) _ rfl (blk_put (blk_put BK729.out 0 _ rfl) 1 _ rfl) Tryd.underlying24 rfl (by kernel_rfl)) rfl ?_
   exact ⟨rg, bz⟩
 · rw [if_neg c2] at H
   have c2b0 : decide (a0_0 < 0) = false := decide_eq_false c2; clear c2
   simp only [Option.some.injEq, Prod.mk.injEq] at H
   obtain ⟨rfl, rfl, rfl⟩ := H
   go_enter Tryd.func45, Tryd.ntmps45
   go_wp2_with (first | ((with_reducible refine gate_dst (N := 1) rfl ?_); refine box_event (by rfl) (N := 1) (by rfl) (cs := #[.int .i64 a0_0, .int .u64 a0_1]) (t := 24) (by go_simp <;> rfl) ?_; intro gb728 hg w10 hbox hb; have BK728 := am (hbox); have GW728 := gw w hg; replace HB := am (below_step bz hb); clear hb hbox hg) | ((with_reducible refine gate_dst (N := 2) rfl ?_); refine box_event (by rfl) (N := 2) (by rfl) (cs := #[.int .i64 0, .int .u64 0]) (t := 24) (by go_simp <;> rfl) ?_; intro gb729 hg w11 hbox hb; have BK729 := am (hbox); have GW729 := gw w hg; replace HB := am (below_step bz hb); have NB728_729 := nl BK728 hg; have NB729_728 := nr BK728 hg; replace BK728 := am (bb BK728 hb); clear hb hbox hg; have hnb12 := NB728_729.out; have hnc12 := NB729_728.out; have hcz13_0 : w11.cell? ⟨gb728, 0, none⟩ = some (.int .i64 a0_0) := bc BK728 0; have hcz13_1 : w11.cell? ⟨gb728, 1, none⟩ = some (.int .u64 a0_1) := bc BK728 1; have hfz13_0 := blk_frozen BK728.out 0; have hfz13_1 := blk_frozen BK728.out 1; have hcz14_0 : w11.cell? ⟨gb729, 0, none⟩ = some (.int .i64 0) := bc BK729 0; have hcz14_1 : w11.cell? ⟨gb729, 1, none⟩ = some (.int .u64 0) := bc BK729 1; have hfz14_0 := blk_frozen BK729.out 0; have hfz14_1 := blk_frozen BK729.out 1))
   refine bodyPost_ret (results_ct rfl _ _ gb729 24 #[.int .i64 a0_0, .int .u64 a0_1] (0, 0) _ rfl (blk_put (blk_put BK729.out 0 _ rfl) 1 _ rfl) Tryd.underlying24 rfl (by kernel_rfl)) rfl ?_
   exact ⟨rg, bz⟩

end Go.Proofs.YtcfhmbhlibhlnaaDoor.P
