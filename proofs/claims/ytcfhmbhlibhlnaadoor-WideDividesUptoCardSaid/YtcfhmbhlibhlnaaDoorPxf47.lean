-- Printed by this session's own pp.py (wip/tool) out of the translation.
import Derived.Test.YtcfhmbhlibhlnaaDoorPx0
namespace Go.Proofs.YtcfhmbhlibhlnaaDoor.P
open Go.RowKit Go.Proofs.YtcfhmbhlibhlnaaDoorW.PrintWords Go.Proofs.YtcfhmbhlibhlnaaDoorW.PrintLast Go.Proofs.YtcfhmbhlibhlnaaDoorW.PrintMore Go.Proofs.YtcfhmbhlibhlnaaDoor.Mine
attribute [local go_sem] ext71 ext79 eqA61 eqA62
attribute [local go_sem] max2_int min2_int max_two min_two max_three min_three max_four min_four   -- for this text's walks alone
set_option linter.unusedVariables false
set_option linter.unusedSimpArgs false

/-! ### wide_Of: function 47 -/
def wide_Of.f (a0 : Int) : Option (Int × Int) := some (a0 / 9223372036854775808, IntKind.u64.wrap (a0))
set_option maxHeartbeats 8000000 in
set_option maxRecDepth 100000 in
theorem wide_Of.calls (a0 : Int) (r1 : Int) (r2 : Int) (w : World) (h : wide_Of.f a0 = some (r1, r2)) :
 Calls Tryd.prog 47 #[.int .i64 a0] w fun e w' => e = .returned (.agg #[.int .i64 r1, .int .u64 r2]) ∧ Below w.heap.size w w' := by
 have hu24 := Tryd.underlying24; have HB := am (Below.refl w.heap.size w); have H : (some (a0 / 9223372036854775808, IntKind.u64.wrap (a0))) = some (r1, r2) := h; clear h
 simp only [Option.some.injEq, Prod.mk.injEq] at H
 obtain ⟨rfl, rfl⟩ := H
 go_enter Tryd.func47, Tryd.ntmps47
 go_wp2_with (first | ((with_reducible refine gate_dst (N := 2) rfl ?_); refine box_event ?hg (N := 2) ?hd (cs := #[.int .i64 0, .int .u64 0]) (t := 24) ?hr ?_; (case hd => rfl); (case hg => rfl); (case hr => first | (go_simp; done) | (go_simp; rfl)); intro gb241 hg w2 hbox hb; have n0_ := am (below_step bz hb); have n1_ := am (hbox); have n2_ := am ((by rw [hg]; exact (below_size bz) : w.heap.size ≤ gb241)); have n3_ := am ((by rw [hg]; exact (below_size bz) : w.heap.size ≤ gb241)); clear HB; have HB := n0_; have BK241 := n1_; have GW241 := n2_; have GE241 := n3_; clear n0_ n1_ n2_ n3_; clear hb hbox hg; have hcz3_0 : w2.cell? ⟨gb241, 0, none⟩ = some (.int .i64 0) := (blk_cell BK241.out 0).trans rfl; have hcz3_1 : w2.cell? ⟨gb241, 1, none⟩ = some (.int .u64 0) := (blk_cell BK241.out 1).trans rfl; have hfz3_0 := blk_frozen BK241.out 0; have hfz3_1 := blk_frozen BK241.out 1))
 refine bodyPost_ret (results_cell_row rfl _ _ gb241 24 #[.int .i64 (a0 / 9223372036854775808), .int .u64 (IntKind.u64.wrap (a0))] (0, 0) _ rfl (by (with_reducible repeat (first | apply bA | apply bB | apply bC)); refine blk_put (cs := #[.int .i64 (a0 / 9223372036854775808), .int .u64 0]) ?_ 1 _ rfl; (with_reducible repeat (first | apply bA | apply bB | apply bC)); refine blk_put (cs := #[.int .i64 0, .int .u64 0]) ?_ 0 _ rfl; (with_reducible repeat (first | apply bA | apply bB | apply bC)); exact BK241.out) Tryd.underlying24 rfl (by kernel_rfl)) rfl ?_
 exact ⟨by first | rfl | (simp [errW_none, errW_some] <;> rfl) | (simp [*, errW_none, errW_some] <;> rfl), by repeat (first | (with_reducible first | exact HB.out | apply dA | apply dB | apply dC | refine dE ?_ ‹_›) | exact HB.out)⟩

end Go.Proofs.YtcfhmbhlibhlnaaDoor.P
