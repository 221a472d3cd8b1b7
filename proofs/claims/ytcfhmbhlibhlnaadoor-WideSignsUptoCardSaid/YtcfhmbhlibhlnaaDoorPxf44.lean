-- Printed by this session's own pp.py (wip/tool) out of the translation.
import Derived.Test.YtcfhmbhlibhlnaaDoorPx0
import Derived.Test.YtcfhmbhlibhlnaaDoorPxf69
import Derived.Test.YtcfhmbhlibhlnaaDoorPxf73
import Derived.Test.YtcfhmbhlibhlnaaDoorPxf80
namespace Go.Proofs.YtcfhmbhlibhlnaaDoor.P
open Go.RowKit Go.Proofs.YtcfhmbhlibhlnaaDoorW.PrintWords Go.Proofs.YtcfhmbhlibhlnaaDoorW.PrintLast Go.Proofs.YtcfhmbhlibhlnaaDoorW.PrintMore Go.Proofs.YtcfhmbhlibhlnaaDoor.Mine
attribute [local go_sem] ext71 ext79 eqA61 eqA62
attribute [local go_sem] max2_int min2_int max_two min_two max_three min_three max_four min_four   -- for this text's walks alone
set_option linter.unusedVariables false
set_option linter.unusedSimpArgs false

/-! ### tumblerref01_Neg: function 44 -/
def tumblerref01_Neg.f (k : Nat) (a0_0 : Int) (a0_1 : Int) : Option (Int × Int × Int) := (tumblerref01_From.f k a0_0 a0_1).bind fun bt717 => ((tumblerref01_NegN.f k bt717.1 bt717.2).bind fun bt721 => ((tumblerref01_over.f k bt721.1 bt721.2).bind fun bt725 => (some (bt725.1, bt725.2.1, bt725.2.2))))
theorem tumblerref01_Neg.mono : ∀ a0 a1 k, LeO (tumblerref01_Neg.f k a0 a1) (tumblerref01_Neg.f (k + 1) a0 a1) := by
 intro a0 a1 k
 unfold tumblerref01_Neg.f
 repeat' first
  | (with_reducible exact tumblerref01_From.mono _ _ _)
  | (with_reducible exact tumblerref01_NegN.mono _ _ _)
  | (with_reducible exact tumblerref01_over.mono _ _ _)
  | (with_reducible exact LeO.refl _)
  | (with_reducible exact LeO.none _)
  | (with_reducible refine LeO.ite ?_ ?_)
  | (with_reducible refine LeO.bind ?_ (fun _ => ?_))
  | exact tumblerref01_From.mono _ _ _
  | exact tumblerref01_NegN.mono _ _ _
  | exact tumblerref01_over.mono _ _ _
  | exact LeO.none _
  | refine LeO.ite ?_ ?_
  | refine LeO.bind ?_ (fun _ => ?_)
set_option maxHeartbeats 8000000 in
set_option maxRecDepth 100000 in
theorem tumblerref01_Neg.calls (k : Nat) (a0_0 : Int) (a0_1 : Int) (r1 : Int) (r2 : Int) (r3 : Int) (w : World) (h : tumblerref01_Neg.f k a0_0 a0_1 = some (r1, r2, r3)) :
 Calls Tryd.prog 44 #[.agg #[.int .i64 a0_0, .int .u64 a0_1]] w fun e w' => e = .returned (.tuple #[.agg #[.int .i64 r1, .int .u64 r2], .int .i64 r3]) ∧ Below w.heap.size w w' := by
 have hu24 := Tryd.underlying24; have HB := am (Below.refl w.heap.size w); have H : ((tumblerref01_From.f k a0_0 a0_1).bind fun bt717 => ((tumblerref01_NegN.f k bt717.1 bt717.2).bind fun bt721 => ((tumblerref01_over.f k bt721.1 bt721.2).bind fun bt725 => (some (bt725.1, bt725.2.1, bt725.2.2))))) = some (r1, r2, r3) := h; clear h
 replace H := Option.bind_eq_some_iff.mp H
 obtain ⟨⟨t717, t718⟩, A20, H⟩ := H
 replace H : ((tumblerref01_NegN.f k t717 t718).bind fun bt721 => ((tumblerref01_over.f k bt721.1 bt721.2).bind fun bt725 => (some (bt725.1, bt725.2.1, bt725.2.2)))) = some (r1, r2, r3) := H
 have A2 := Aside0.mk A20; clear A20
 replace H := Option.bind_eq_some_iff.mp H
 obtain ⟨⟨t721, t722⟩, A30, H⟩ := H
 replace H : ((tumblerref01_over.f k t721 t722).bind fun bt725 => (some (bt725.1, bt725.2.1, bt725.2.2))) = some (r1, r2, r3) := H
 have A3 := Aside0.mk A30; clear A30
 replace H := Option.bind_eq_some_iff.mp H
 obtain ⟨⟨t725, t726, t727⟩, A40, H⟩ := H
 replace H : (some (t725, t726, t727)) = some (r1, r2, r3) := H
 have A4 := Aside0.mk A40; clear A40
 simp only [Option.some.injEq, Prod.mk.injEq] at H
 obtain ⟨rfl, rfl, rfl⟩ := H
 go_enter Tryd.func44, Tryd.ntmps44
 go_wp2_with (first | ((with_reducible refine gate_dst (N := 1) rfl ?_); refine box_event ?hg (N := 1) ?hd (cs := #[.int .i64 a0_0, .int .u64 a0_1]) (t := 24) ?hr ?_; (case hd => rfl); (case hg => rfl); (case hr => first | (go_simp; done) | (go_simp; rfl)); intro gb715 hg w5 hbox hb; have n0_ := am (below_step bz hb); have n1_ := am (hbox); have n2_ := am ((by rw [hg]; exact (below_size bz) : w.heap.size ≤ gb715)); have n3_ := am ((by rw [hg]; exact (below_size bz) : w.heap.size ≤ gb715)); clear HB; have HB := n0_; have BK715 := n1_; have GW715 := n2_; have GE715 := n3_; clear n0_ n1_ n2_ n3_; clear hb hbox hg) | ((with_reducible refine gate_dst (N := 2) rfl ?_); refine box_event ?hg (N := 2) ?hd (cs := #[.int .i64 0, .int .u64 0]) (t := 24) ?hr ?_; (case hd => rfl); (case hg => rfl); (case hr => first | (go_simp; done) | (go_simp; rfl)); intro gb716 hg w6 hbox hb; have n0_ := am (bb BK715 hb); have n1_ := am (below_step bz hb); have n2_ := am (hbox); have n3_ := am ((by rw [hg]; exact (below_size bz) : w.heap.size ≤ gb716)); have n4_ := am ((by rw [hg]; exact (below_size bz) : w.heap.size ≤ gb716)); have n5_ := am ((by rw [hg]; exact Nat.ne_of_lt (bl BK715) : gb715 ≠ gb716)); have n6_ := am ((by rw [hg]; exact Nat.ne_of_gt (bl BK715) : gb716 ≠ gb715)); clear BK715; clear HB; have BK715 := n0_; have HB := n1_; have BK716 := n2_; have GW716 := n3_; have GE716 := n4_; have NB715_716 := n5_; have NB716_715 := n6_; clear n0_ n1_ n2_ n3_ n4_ n5_ n6_; clear hb hbox hg; have hnb7 := NB715_716.out; have hnc7 := NB716_715.out; have hcz8_0 : w6.cell? ⟨gb715, 0, none⟩ = some (.int .i64 a0_0) := (blk_cell BK715.out 0).trans rfl; have hcz8_1 : w6.cell? ⟨gb715, 1, none⟩ = some (.int .u64 a0_1) := (blk_cell BK715.out 1).trans rfl; have hfz8_0 := blk_frozen BK715.out 0; have hfz8_1 := blk_frozen BK715.out 1) | ((with_reducible refine gate_callee (f := 69) rfl ?_); refine goesL_ (some 5) rfl rfl Tryd.func69 (by kernel_rfl) rfl #[.agg #[.int .i64 a0_0, .int .u64 a0_1]] rfl (by (try simp only [List.map_toArray, List.map_cons, List.map_nil]); first | done | rfl | (simp only [List.length_drop, List.length_take]; rfl)) ?_; (with_reducible refine (tumblerref01_From.calls k a0_0 a0_1 t717 t718 _ A2.out).mono ?_); rintro e w9 ⟨v719, rfl, ho0, hb⟩; refine ⟨_, rfl, ?_⟩; have n0_ := am (Kd.V_lower (Kd.V_mono (ok' := fun k_ => k_ ≠ gb715 ∧ k_ ≠ gb716) ho0 (fun k_ hk_ => ⟨(Kd.freshB (g := gb715) (o := .cells #[.int .i64 a0_0, .int .u64 a0_1] 24 (0, 0)) (bq BK715) k_ hk_), (Kd.freshB (g := gb716) (o := .cells #[.int .i64 0, .int .u64 0] 24 (0, 0)) (bq BK716) k_ hk_)⟩)) (below_size bz)); have n1_ := am (bb BK715 hb); have n2_ := am (bb BK716 hb); have n3_ := am (below_step bz hb); clear BK715; clear BK716; clear HB; have HO720 := n0_; have BK715 := n1_; have BK716 := n2_; have HB := n3_; clear n0_ n1_ n2_ n3_; (try clear hb); (try clear hb2); (try clear hk); (try clear hi); (try clear ho0); obtain ⟨Ao10, co10, eo10⟩ := Kd.V_slice HO720.out; subst eo10) | ((with_reducible refine gate_callee (f := 80) rfl ?_); refine goesL_ (some 6) rfl rfl Tryd.func80 (by kernel_rfl) rfl #[.agg #[.bool t717, .slice Ao10 t718.length co10]] rfl (by (try simp only [List.map_toArray, List.map_cons, List.map_nil]); first | done | rfl | (simp only [List.length_drop, List.length_take]; rfl)) ?_; (with_reducible refine (tumblerref01_NegN.calls k t717 (fun k_ => (k_ ≠ gb715 ∧ k_ ≠ gb716)) _ _ t718 t721 t722 _ ?side1 A3.out).mono ?_); (case side1 => exact HO720.out); rintro e w11 ⟨v723, rfl, ho0, hb⟩; refine ⟨_, rfl, ?_⟩; have n0_ := am (Kd.V_below (by (with_reducible repeat (first | apply Kd.V_alloc | apply Kd.V_drewN | apply Kd.V_drew)); exact HO720.out) hb); have n1_ := am (Kd.V_lower (Kd.V_mono (ok' := fun k_ => k_ ≠ gb715 ∧ k_ ≠ gb716) ho0 (fun k_ hk_ => ⟨Or.elim hk_ (fun hs_ => hs_.1) (fun hn_ => (Kd.freshB (g := gb715) (o := .cells #[.int .i64 a0_0, .int .u64 a0_1] 24 (0, 0)) (bq BK715) k_ hn_)), Or.elim hk_ (fun hs_ => hs_.2) (fun hn_ => (Kd.freshB (g := gb716) (o := .cells #[.int .i64 0, .int .u64 0] 24 (0, 0)) (bq BK716) k_ hn_))⟩)) (below_size bz)); have n2_ := am (bb BK715 hb); have n3_ := am (bb BK716 hb); have n4_ := am (below_step bz hb); clear HO720; clear BK715; clear BK716; clear HB; have HO720 := n0_; have HO724 := n1_; have BK715 := n2_; have BK716 := n3_; have HB := n4_; clear n0_ n1_ n2_ n3_ n4_; (try clear hb); (try clear hb2); (try clear hk); (try clear hi); (try clear ho0); obtain ⟨Ao12, co12, eo12⟩ := Kd.V_slice HO724.out; subst eo12) | ((with_reducible refine gate_callee (f := 73) rfl ?_); refine goesL_ (some 7) rfl rfl Tryd.func73 (by kernel_rfl) rfl #[.agg #[.bool t721, .slice Ao12 t722.length co12]] rfl (by (try simp only [List.map_toArray, List.map_cons, List.map_nil]); first | done | rfl | (simp only [List.length_drop, List.length_take]; rfl)) ?_; (with_reducible refine (tumblerref01_over.calls k t721 _ _ t722 t725 t726 t727 _ ?side1 ?side2 A4.out).mono ?_); (case side1 => repeat (first | exact (Kd.V_reads' HO724.out).2.2 | (with_reducible refine Kd.C_alloc ?_ _) | (with_reducible refine Kd.C_drewN ?_ _) | (with_reducible refine Kd.C_drew ?_))); (case side2 => exact (Kd.V_reads' HO724.out).2.1); rintro e w13 ⟨rfl, hb⟩; refine ⟨_, rfl, ?_⟩; have n0_ := am (Kd.V_below (by (with_reducible repeat (first | apply Kd.V_alloc | apply Kd.V_drewN | apply Kd.V_drew)); exact HO720.out) hb); have n1_ := am (Kd.V_below (by (with_reducible repeat (first | apply Kd.V_alloc | apply Kd.V_drewN | apply Kd.V_drew)); exact HO724.out) hb); have n2_ := am (bb BK715 hb); have n3_ := am (bb BK716 hb); have n4_ := am (below_step bz hb); clear HO720; clear HO724; clear BK715; clear BK716; clear HB; have HO720 := n0_; have HO724 := n1_; have BK715 := n2_; have BK716 := n3_; have HB := n4_; clear n0_ n1_ n2_ n3_ n4_; (try clear hb); (try clear hb2); (try clear hk); (try clear hi); have hcz14_0 : w13.cell? ⟨gb716, 0, none⟩ = some (.int .i64 0) := (blk_cell BK716.out 0).trans rfl; have hcz14_1 : w13.cell? ⟨gb716, 1, none⟩ = some (.int .u64 0) := (blk_cell BK716.out 1).trans rfl; have hfz14_0 := blk_frozen BK716.out 0; have hfz14_1 := blk_frozen BK716.out 1))
 refine bodyPost_ret (results_ct rfl _ _ gb716 24 #[.int .i64 t725, .int .u64 t726] (0, 0) _ rfl (by (with_reducible repeat (first | apply bA | apply bB | apply bC)); refine blk_put (cs := #[.int .i64 t725, .int .u64 0]) ?_ 1 _ rfl; (with_reducible repeat (first | apply bA | apply bB | apply bC)); refine blk_put (cs := #[.int .i64 0, .int .u64 0]) ?_ 0 _ rfl; (with_reducible repeat (first | apply bA | apply bB | apply bC)); exact BK716.out) Tryd.underlying24 rfl (by kernel_rfl)) rfl ?_
 exact ⟨by first | rfl | (simp [errW_none, errW_some] <;> rfl) | (simp [*, errW_none, errW_some] <;> rfl), by repeat (first | (with_reducible first | exact HB.out | apply dA | apply dB | apply dC | refine dE ?_ ‹_›) | exact HB.out)⟩

end Go.Proofs.YtcfhmbhlibhlnaaDoor.P
