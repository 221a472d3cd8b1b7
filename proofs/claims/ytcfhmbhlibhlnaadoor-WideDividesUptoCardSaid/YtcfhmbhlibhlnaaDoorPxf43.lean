-- Printed by this session's own pp.py (wip/tool) out of the translation.
import Derived.Test.YtcfhmbhlibhlnaaDoorPx0
import Derived.Test.YtcfhmbhlibhlnaaDoorPxf39
namespace Go.Proofs.YtcfhmbhlibhlnaaDoor.P
open Go.RowKit Go.Proofs.YtcfhmbhlibhlnaaDoorW.PrintWords Go.Proofs.YtcfhmbhlibhlnaaDoorW.PrintLast Go.Proofs.YtcfhmbhlibhlnaaDoorW.PrintMore Go.Proofs.YtcfhmbhlibhlnaaDoor.Mine
attribute [local go_sem] ext71 ext79 eqA61 eqA62
attribute [local go_sem] max2_int min2_int max_two min_two max_three min_three max_four min_four   -- for this text's walks alone
set_option linter.unusedVariables false
set_option linter.unusedSimpArgs false

/-! ### wide_Neg: function 43 -/
def wide_Neg.f (a0_0 : Int) (a0_1 : Int) : Option (Int × Int × Int) := (wide_Sub.f 0 0 a0_0 a0_1).bind fun bt712 => (some (bt712.1, bt712.2.1, bt712.2.2))
set_option maxHeartbeats 8000000 in
set_option maxRecDepth 100000 in
theorem wide_Neg.calls (a0_0 : Int) (a0_1 : Int) (r1 : Int) (r2 : Int) (r3 : Int) (w : World) (h : wide_Neg.f a0_0 a0_1 = some (r1, r2, r3)) :
 Calls Tryd.prog 43 #[.agg #[.int .i64 a0_0, .int .u64 a0_1]] w fun e w' => e = .returned (.tuple #[.agg #[.int .i64 r1, .int .u64 r2], .int .i64 r3]) ∧ Below w.heap.size w w' := by
 have hu24 := Tryd.underlying24; have HB := am (Below.refl w.heap.size w); have H : ((wide_Sub.f 0 0 a0_0 a0_1).bind fun bt712 => (some (bt712.1, bt712.2.1, bt712.2.2))) = some (r1, r2, r3) := h; clear h
 replace H := Option.bind_eq_some_iff.mp H
 obtain ⟨⟨t712, t713, t714⟩, A20, H⟩ := H
 replace H : (some (t712, t713, t714)) = some (r1, r2, r3) := H
 have A2 := Aside0.mk A20; clear A20
 simp only [Option.some.injEq, Prod.mk.injEq] at H
 obtain ⟨rfl, rfl, rfl⟩ := H
 go_enter Tryd.func43, Tryd.ntmps43
 go_wp2_with (first | ((with_reducible refine gate_dst (N := 1) rfl ?_); refine box_event ?hg (N := 1) ?hd (cs := #[.int .i64 a0_0, .int .u64 a0_1]) (t := 24) ?hr ?_; (case hd => rfl); (case hg => rfl); (case hr => first | (go_simp; done) | (go_simp; rfl)); intro gb710 hg w3 hbox hb; have n0_ := am (below_step bz hb); have n1_ := am (hbox); have n2_ := am ((by rw [hg]; exact (below_size bz) : w.heap.size ≤ gb710)); have n3_ := am ((by rw [hg]; exact (below_size bz) : w.heap.size ≤ gb710)); clear HB; have HB := n0_; have BK710 := n1_; have GW710 := n2_; have GE710 := n3_; clear n0_ n1_ n2_ n3_; clear hb hbox hg) | ((with_reducible refine gate_dst (N := 2) rfl ?_); refine box_event ?hg (N := 2) ?hd (cs := #[.int .i64 0, .int .u64 0]) (t := 24) ?hr ?_; (case hd => rfl); (case hg => rfl); (case hr => first | (go_simp; done) | (go_simp; rfl)); intro gb711 hg w4 hbox hb; have n0_ := am (bb BK710 hb); have n1_ := am (below_step bz hb); have n2_ := am (hbox); have n3_ := am ((by rw [hg]; exact (below_size bz) : w.heap.size ≤ gb711)); have n4_ := am ((by rw [hg]; exact (below_size bz) : w.heap.size ≤ gb711)); have n5_ := am ((by rw [hg]; exact Nat.ne_of_lt (bl BK710) : gb710 ≠ gb711)); have n6_ := am ((by rw [hg]; exact Nat.ne_of_gt (bl BK710) : gb711 ≠ gb710)); clear BK710; clear HB; have BK710 := n0_; have HB := n1_; have BK711 := n2_; have GW711 := n3_; have GE711 := n4_; have NB710_711 := n5_; have NB711_710 := n6_; clear n0_ n1_ n2_ n3_ n4_ n5_ n6_; clear hb hbox hg; have hnb5 := NB710_711.out; have hnc5 := NB711_710.out; have hcz6_0 : w4.cell? ⟨gb710, 0, none⟩ = some (.int .i64 a0_0) := (blk_cell BK710.out 0).trans rfl; have hcz6_1 : w4.cell? ⟨gb710, 1, none⟩ = some (.int .u64 a0_1) := (blk_cell BK710.out 1).trans rfl; have hfz6_0 := blk_frozen BK710.out 0; have hfz6_1 := blk_frozen BK710.out 1) | ((with_reducible refine gate_callee (f := 39) rfl ?_); refine goesL_ (some 6) rfl rfl Tryd.func39 (by kernel_rfl) rfl #[.agg #[.int .i64 0, .int .u64 0], .agg #[.int .i64 a0_0, .int .u64 a0_1]] rfl (by (try simp only [List.map_toArray, List.map_cons, List.map_nil]); first | done | rfl | (simp only [List.length_drop, List.length_take]; rfl)) ?_; (with_reducible refine (wide_Sub.calls 0 0 a0_0 a0_1 t712 t713 t714 _ A2.out).mono ?_); rintro e w7 ⟨rfl, hb⟩; refine ⟨_, rfl, ?_⟩; have n0_ := am (bb BK710 hb); have n1_ := am (bb BK711 hb); have n2_ := am (below_step bz hb); clear BK710; clear BK711; clear HB; have BK710 := n0_; have BK711 := n1_; have HB := n2_; clear n0_ n1_ n2_; (try clear hb); (try clear hb2); (try clear hk); (try clear hi); have hcz8_0 : w7.cell? ⟨gb711, 0, none⟩ = some (.int .i64 0) := (blk_cell BK711.out 0).trans rfl; have hcz8_1 : w7.cell? ⟨gb711, 1, none⟩ = some (.int .u64 0) := (blk_cell BK711.out 1).trans rfl; have hfz8_0 := blk_frozen BK711.out 0; have hfz8_1 := blk_frozen BK711.out 1))
 refine bodyPost_ret (results_ct rfl _ _ gb711 24 #[.int .i64 t712, .int .u64 t713] (0, 0) _ rfl (by (with_reducible repeat (first | apply bA | apply bB | apply bC)); refine blk_put (cs := #[.int .i64 t712, .int .u64 0]) ?_ 1 _ rfl; (with_reducible repeat (first | apply bA | apply bB | apply bC)); refine blk_put (cs := #[.int .i64 0, .int .u64 0]) ?_ 0 _ rfl; (with_reducible repeat (first | apply bA | apply bB | apply bC)); exact BK711.out) Tryd.underlying24 rfl (by kernel_rfl)) rfl ?_
 exact ⟨by first | rfl | (simp [errW_none, errW_some] <;> rfl) | (simp [*, errW_none, errW_some] <;> rfl), by repeat (first | (with_reducible first | exact HB.out | apply dA | apply dB | apply dC | refine dE ?_ ‹_›) | exact HB.out)⟩

end Go.Proofs.YtcfhmbhlibhlnaaDoor.P
