-- Printed by this session's own pp.py (wip/tool) out of the translation.
import Derived.Test.YtcfhmbhlibhlnaaDoorPx0
import Derived.Test.YtcfhmbhlibhlnaaDoorPxg0
namespace Go.Proofs.YtcfhmbhlibhlnaaDoor.P
open Go.RowKit Go.Proofs.YtcfhmbhlibhlnaaDoorW.PrintWords Go.Proofs.YtcfhmbhlibhlnaaDoorW.PrintLast Go.Proofs.YtcfhmbhlibhlnaaDoorW.PrintMore Go.Proofs.YtcfhmbhlibhlnaaDoor.Mine
attribute [local go_sem] ext71 ext79 eqA61 eqA62
attribute [local go_sem] max2_int min2_int max_two min_two max_three min_three max_four min_four   -- for this text's walks alone
set_option linter.unusedVariables false
set_option linter.unusedSimpArgs false

/-! ### micro_Fits: function 63 -/
def micro_Fits.f (a0_0 : Int) (a0_1 : Int) : Option (Int × Bool) := (wide_Small.f a0_0 a0_1).bind fun bt1146 => (some (bt1146.1, bt1146.2))
set_option maxHeartbeats 8000000 in
set_option maxRecDepth 100000 in
theorem micro_Fits.calls (a0_0 : Int) (a0_1 : Int) (r1 : Int) (r2 : Bool) (w : World) (h : micro_Fits.f a0_0 a0_1 = some (r1, r2)) :
 Calls Tryd.prog 63 #[.agg #[.int .i64 a0_0, .int .u64 a0_1]] w fun e w' => e = .returned (.tuple #[.int .i64 r1, .bool r2]) ∧ Below w.heap.size w w' := by
 have hu24 := Tryd.underlying24; have HB := am (Below.refl w.heap.size w); have H : ((wide_Small.f a0_0 a0_1).bind fun bt1146 => (some (bt1146.1, bt1146.2))) = some (r1, r2) := h; clear h
 replace H := Option.bind_eq_some_iff.mp H
 obtain ⟨⟨t1146, t1147⟩, A20, H⟩ := H
 replace H : (some (t1146, t1147)) = some (r1, r2) := H
 have A2 := Aside0.mk A20; clear A20
 simp only [Option.some.injEq, Prod.mk.injEq] at H
 obtain ⟨rfl, rfl⟩ := H
 go_enter Tryd.func63, Tryd.ntmps63
 go_wp2_with (first | ((with_reducible refine gate_dst (N := 1) rfl ?_); refine box_event (by rfl) (N := 1) (by rfl) (cs := #[.int .i64 a0_0, .int .u64 a0_1]) (t := 24) (by go_simp <;> rfl) ?_; intro gb1145 hg w3 hbox hb; have BK1145 := am (hbox); have GW1145 := gw w hg; replace HB := am (below_step bz hb); clear hb hbox hg; have hcz4_0 : w3.cell? ⟨gb1145, 0, none⟩ = some (.int .i64 a0_0) := bc BK1145 0; have hcz4_1 : w3.cell? ⟨gb1145, 1, none⟩ = some (.int .u64 a0_1) := bc BK1145 1; have hfz4_0 := blk_frozen BK1145.out 0; have hfz4_1 := blk_frozen BK1145.out 1) | ((with_reducible refine gate_callee (f := 41) rfl ?_); refine goesL_ (some 5) rfl rfl Tryd.func41 (by kernel_rfl) rfl #[.agg #[.int .i64 a0_0, .int .u64 a0_1]] rfl rf ?_; (with_reducible refine (wide_Small.calls a0_0 a0_1 t1146 t1147 _ A2.out).mono ?_); rintro e w5 ⟨rfl, hb⟩; refine ⟨_, rfl, ?_⟩; replace BK1145 := am (bb BK1145 hb); replace HB := am (below_step bz hb); (try clear hb); (try clear hb2); (try clear hk); (try clear hi)))
 go_ret2
 exact ⟨rg, bz⟩

end Go.Proofs.YtcfhmbhlibhlnaaDoor.P
