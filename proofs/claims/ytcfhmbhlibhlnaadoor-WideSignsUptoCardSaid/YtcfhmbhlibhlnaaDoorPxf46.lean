-- Printed by this session's own pp.py (wip/tool) out of the translation.
import Derived.Test.YtcfhmbhlibhlnaaDoorPx0
import Derived.Test.YtcfhmbhlibhlnaaDoorPxf81
import Derived.Test.YtcfhmbhlibhlnaaDoorPxf69
import Derived.Test.YtcfhmbhlibhlnaaDoorPxf73
namespace Go.Proofs.YtcfhmbhlibhlnaaDoor.P
open Go.RowKit Go.Proofs.YtcfhmbhlibhlnaaDoorW.PrintWords Go.Proofs.YtcfhmbhlibhlnaaDoorW.PrintLast Go.Proofs.YtcfhmbhlibhlnaaDoorW.PrintMore Go.Proofs.YtcfhmbhlibhlnaaDoor.Mine
attribute [local go_sem] ext71 ext79 eqA61 eqA62
attribute [local go_sem] max2_int min2_int max_two min_two max_three min_three max_four min_four   -- for this text's walks alone
set_option linter.unusedVariables false
set_option linter.unusedSimpArgs false

/-! ### tumblerref01_Abs: function 46 -/
def tumblerref01_Abs.f (k : Nat) (a0_0 : Int) (a0_1 : Int) : Option (Int × Int × Int) := (tumblerref01_From.f k a0_0 a0_1).bind fun bt735 => ((tumblerref01_make2.f k false bt735.2).bind fun bt739 => ((tumblerref01_over.f k bt739.1 bt739.2).bind fun bt743 => (some (bt743.1, bt743.2.1, bt743.2.2))))
theorem tumblerref01_Abs.mono : ∀ a0 a1 k, LeO (tumblerref01_Abs.f k a0 a1) (tumblerref01_Abs.f (k + 1) a0 a1) := by
 intro a0 a1 k
 unfold tumblerref01_Abs.f
 repeat' first
  | (with_reducible exact tumblerref01_From.mono _ _ _)
  | (with_reducible exact tumblerref01_make2.mono _ _ _)
  | (with_reducible exact tumblerref01_over.mono _ _ _)
  | (with_reducible exact LeO.refl _)
  | (with_reducible exact LeO.none _)
  | (with_reducible refine LeO.ite ?_ ?_)
  | (with_reducible refine LeO.bind ?_ (fun _ => ?_))
  | exact tumblerref01_From.mono _ _ _
  | exact tumblerref01_make2.mono _ _ _
  | exact tumblerref01_over.mono _ _ _
  | exact LeO.none _
  | refine LeO.ite ?_ ?_
  | refine LeO.bind ?_ (fun _ => ?_)
set_option maxHeartbeats 8000000 in
set_option maxRecDepth 100000 in
theorem tumblerref01_Abs.calls (k : Nat) (a0_0 : Int) (a0_1 : Int) (r1 : Int) (r2 : Int) (r3 : Int) (w : World) (h : tumblerref01_Abs.f k a0_0 a0_1 = some (r1, r2, r3)) :
 Calls Tryd.prog 46 #[.agg #[.int .i64 a0_0, .int .u64 a0_1]] w fun e w' => e = .returned (.tuple #[.agg #[.int .i64 r1, .int .u64 r2], .int .i64 r3]) ∧ Below w.heap.size w w' := by
 have hfld : ∀ (b : Bool) (A : Option Addr) (n c : Nat) (W : World), (Instr.field 71 (.agg #[.bool b, .slice A n c]) 1).run Tryd.prog W = .ok (.slice A n c) W := fun b A n c W => by kernel_rfl
 have hu24 := Tryd.underlying24; have HB := am (Below.refl w.heap.size w); have H : ((tumblerref01_From.f k a0_0 a0_1).bind fun bt735 => ((tumblerref01_make2.f k false bt735.2).bind fun bt739 => ((tumblerref01_over.f k bt739.1 bt739.2).bind fun bt743 => (some (bt743.1, bt743.2.1, bt743.2.2))))) = some (r1, r2, r3) := h; clear h
 replace H := Option.bind_eq_some_iff.mp H
 obtain ⟨⟨t735, t736⟩, A20, H⟩ := H
 replace H : ((tumblerref01_make2.f k false t736).bind fun bt739 => ((tumblerref01_over.f k bt739.1 bt739.2).bind fun bt743 => (some (bt743.1, bt743.2.1, bt743.2.2)))) = some (r1, r2, r3) := H
 have A2 := Aside0.mk A20; clear A20
 replace H := Option.bind_eq_some_iff.mp H
 obtain ⟨⟨t739, t740⟩, A30, H⟩ := H
 replace H : ((tumblerref01_over.f k t739 t740).bind fun bt743 => (some (bt743.1, bt743.2.1, bt743.2.2))) = some (r1, r2, r3) := H
 have A3 := Aside0.mk A30; clear A30
 replace H := Option.bind_eq_some_iff.mp H
 obtain ⟨⟨t743, t744, t745⟩, A40, H⟩ := H
 replace H : (some (t743, t744, t745)) = some (r1, r2, r3) := H
 have A4 := Aside0.mk A40; clear A40
 simp only [Option.some.injEq, Prod.mk.injEq] at H
 obtain ⟨rfl, rfl, rfl⟩ := H
 go_enter Tryd.func46, Tryd.ntmps46
 go_wp2_with (first | ((with_reducible refine gate_dst (N := 1) rfl ?_); refine box_event ?hg (N := 1) ?hd (cs := #[.int .i64 a0_0, .int .u64 a0_1]) (t := 24) ?hr ?_; (case hd => rfl); (case hg => rfl); (case hr => first | (go_simp; done) | (go_simp; rfl)); intro gb733 hg w5 hbox hb; have n0_ := am (below_step bz hb); have n1_ := am (hbox); have n2_ := am ((by rw [hg]; exact (below_size bz) : w.heap.size ≤ gb733)); have n3_ := am ((by rw [hg]; exact (below_size bz) : w.heap.size ≤ gb733)); clear HB; have HB := n0_; have BK733 := n1_; have GW733 := n2_; have GE733 := n3_; clear n0_ n1_ n2_ n3_; clear hb hbox hg) | ((with_reducible refine gate_dst (N := 2) rfl ?_); refine box_event ?hg (N := 2) ?hd (cs := #[.int .i64 0, .int .u64 0]) (t := 24) ?hr ?_; (case hd => rfl); (case hg => rfl); (case hr => first | (go_simp; done) | (go_simp; rfl)); intro gb734 hg w6 hbox hb; have n0_ := am (bb BK733 hb); have n1_ := am (below_step bz hb); have n2_ := am (hbox); have n3_ := am ((by rw [hg]; exact (below_size bz) : w.heap.size ≤ gb734)); have n4_ := am ((by rw [hg]; exact (below_size bz) : w.heap.size ≤ gb734)); have n5_ := am ((by rw [hg]; exact Nat.ne_of_lt (bl BK733) : gb733 ≠ gb734)); have n6_ := am ((by rw [hg]; exact Nat.ne_of_gt (bl BK733) : gb734 ≠ gb733)); clear BK733; clear HB; have BK733 := n0_; have HB := n1_; have BK734 := n2_; have GW734 := n3_; have GE734 := n4_; have NB733_734 := n5_; have NB734_733 := n6_; clear n0_ n1_ n2_ n3_ n4_ n5_ n6_; clear hb hbox hg; have hnb7 := NB733_734.out; have hnc7 := NB734_733.out; have hcz8_0 : w6.cell? ⟨gb733, 0, none⟩ = some (.int .i64 a0_0) := (blk_cell BK733.out 0).trans rfl; have hcz8_1 : w6.cell? ⟨gb733, 1, none⟩ = some (.int .u64 a0_1) := (blk_cell BK733.out 1).trans rfl; have hfz8_0 := blk_frozen BK733.out 0; have hfz8_1 := blk_frozen BK733.out 1) | ((with_reducible refine gate_callee (f := 69) rfl ?_); refine goesL_ (some 5) rfl rfl Tryd.func69 (by kernel_rfl) rfl #[.agg #[.int .i64 a0_0, .int .u64 a0_1]] rfl (by (try simp only [List.map_toArray, List.map_cons, List.map_nil]); first | done | rfl | (simp only [List.length_drop, List.length_take]; rfl)) ?_; (with_reducible refine (tumblerref01_From.calls k a0_0 a0_1 t735 t736 _ A2.out).mono ?_); rintro e w9 ⟨v737, rfl, ho0, hb⟩; refine ⟨_, rfl, ?_⟩; have n0_ := am (Kd.V_lower (Kd.V_mono (ok' := fun k_ => k_ ≠ gb733 ∧ k_ ≠ gb734) ho0 (fun k_ hk_ => ⟨(Kd.freshB (g := gb733) (o := .cells #[.int .i64 a0_0, .int .u64 a0_1] 24 (0, 0)) (bq BK733) k_ hk_), (Kd.freshB (g := gb734) (o := .cells #[.int .i64 0, .int .u64 0] 24 (0, 0)) (bq BK734) k_ hk_)⟩)) (below_size bz)); have n1_ := am (bb BK733 hb); have n2_ := am (bb BK734 hb); have n3_ := am (below_step bz hb); clear BK733; clear BK734; clear HB; have HO738 := n0_; have BK733 := n1_; have BK734 := n2_; have HB := n3_; clear n0_ n1_ n2_ n3_; (try clear hb); (try clear hb2); (try clear hk); (try clear hi); (try clear ho0); obtain ⟨Ao10, co10, eo10⟩ := Kd.V_slice HO738.out; subst eo10) | ((with_reducible refine gate_callee (f := 81) rfl ?_); refine goesL_ (some 7) rfl rfl Tryd.func81 (by kernel_rfl) rfl #[.bool false, .slice Ao10 t736.length co10] rfl (by (try simp only [List.map_toArray, List.map_cons, List.map_nil]); first | done | rfl | (simp only [List.length_drop, List.length_take]; rfl)) ?_; (with_reducible refine (tumblerref01_make2.calls k false (fun k_ => (k_ ≠ gb733 ∧ k_ ≠ gb734)) _ _ t736 t739 t740 _ ?side1 A3.out).mono ?_); (case side1 => exact HO738.out); rintro e w11 ⟨v741, rfl, ho0, hb⟩; refine ⟨_, rfl, ?_⟩; have n0_ := am (Kd.V_below (by (with_reducible repeat (first | apply Kd.V_alloc | apply Kd.V_drewN | apply Kd.V_drew)); exact HO738.out) hb); have n1_ := am (Kd.V_lower (Kd.V_mono (ok' := fun k_ => k_ ≠ gb733 ∧ k_ ≠ gb734) ho0 (fun k_ hk_ => ⟨Or.elim hk_ (fun hs_ => hs_.1) (fun hn_ => (Kd.freshB (g := gb733) (o := .cells #[.int .i64 a0_0, .int .u64 a0_1] 24 (0, 0)) (bq BK733) k_ hn_)), Or.elim hk_ (fun hs_ => hs_.2) (fun hn_ => (Kd.freshB (g := gb734) (o := .cells #[.int .i64 0, .int .u64 0] 24 (0, 0)) (bq BK734) k_ hn_))⟩)) (below_size bz)); have n2_ := am (bb BK733 hb); have n3_ := am (bb BK734 hb); have n4_ := am (below_step bz hb); clear HO738; clear BK733; clear BK734; clear HB; have HO738 := n0_; have HO742 := n1_; have BK733 := n2_; have BK734 := n3_; have HB := n4_; clear n0_ n1_ n2_ n3_ n4_; (try clear hb); (try clear hb2); (try clear hk); (try clear hi); (try clear ho0); obtain ⟨Ao12, co12, eo12⟩ := Kd.V_slice HO742.out; subst eo12) | ((with_reducible refine gate_callee (f := 73) rfl ?_); refine goesL_ (some 8) rfl rfl Tryd.func73 (by kernel_rfl) rfl #[.agg #[.bool t739, .slice Ao12 t740.length co12]] rfl (by (try simp only [List.map_toArray, List.map_cons, List.map_nil]); first | done | rfl | (simp only [List.length_drop, List.length_take]; rfl)) ?_; (with_reducible refine (tumblerref01_over.calls k t739 _ _ t740 t743 t744 t745 _ ?side1 ?side2 A4.out).mono ?_); (case side1 => repeat (first | exact (Kd.V_reads' HO742.out).2.2 | (with_reducible refine Kd.C_alloc ?_ _) | (with_reducible refine Kd.C_drewN ?_ _) | (with_reducible refine Kd.C_drew ?_))); (case side2 => exact (Kd.V_reads' HO742.out).2.1); rintro e w13 ⟨rfl, hb⟩; refine ⟨_, rfl, ?_⟩; have n0_ := am (Kd.V_below (by (with_reducible repeat (first | apply Kd.V_alloc | apply Kd.V_drewN | apply Kd.V_drew)); exact HO738.out) hb); have n1_ := am (Kd.V_below (by (with_reducible repeat (first | apply Kd.V_alloc | apply Kd.V_drewN | apply Kd.V_drew)); exact HO742.out) hb); have n2_ := am (bb BK733 hb); have n3_ := am (bb BK734 hb); have n4_ := am (below_step bz hb); clear HO738; clear HO742; clear BK733; clear BK734; clear HB; have HO738 := n0_; have HO742 := n1_; have BK733 := n2_; have BK734 := n3_; have HB := n4_; clear n0_ n1_ n2_ n3_ n4_; (try clear hb); (try clear hb2); (try clear hk); (try clear hi); have hcz14_0 : w13.cell? ⟨gb734, 0, none⟩ = some (.int .i64 0) := (blk_cell BK734.out 0).trans rfl; have hcz14_1 : w13.cell? ⟨gb734, 1, none⟩ = some (.int .u64 0) := (blk_cell BK734.out 1).trans rfl; have hfz14_0 := blk_frozen BK734.out 0; have hfz14_1 := blk_frozen BK734.out 1))
 refine bodyPost_ret (results_ct rfl _ _ gb734 24 #[.int .i64 t743, .int .u64 t744] (0, 0) _ rfl (by (with_reducible repeat (first | apply bA | apply bB | apply bC)); refine blk_put (cs := #[.int .i64 t743, .int .u64 0]) ?_ 1 _ rfl; (with_reducible repeat (first | apply bA | apply bB | apply bC)); refine blk_put (cs := #[.int .i64 0, .int .u64 0]) ?_ 0 _ rfl; (with_reducible repeat (first | apply bA | apply bB | apply bC)); exact BK734.out) Tryd.underlying24 rfl (by kernel_rfl)) rfl ?_
 exact ⟨by first | rfl | (simp [errW_none, errW_some] <;> rfl) | (simp [*, errW_none, errW_some] <;> rfl), by repeat (first | (with_reducible first | exact HB.out | apply dA | apply dB | apply dC | refine dE ?_ ‹_›) | exact HB.out)⟩

end Go.Proofs.YtcfhmbhlibhlnaaDoor.P
