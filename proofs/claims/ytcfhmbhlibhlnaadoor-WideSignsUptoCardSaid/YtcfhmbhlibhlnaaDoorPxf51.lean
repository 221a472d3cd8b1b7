-- Printed by this session's own pp.py (wip/tool) out of the translation.
import Derived.Test.YtcfhmbhlibhlnaaDoorPx0
import Derived.Test.YtcfhmbhlibhlnaaDoorPxf69
import Derived.Test.YtcfhmbhlibhlnaaDoorPxf82
namespace Go.Proofs.YtcfhmbhlibhlnaaDoor.P
open Go.RowKit Go.Proofs.YtcfhmbhlibhlnaaDoorW.PrintWords Go.Proofs.YtcfhmbhlibhlnaaDoorW.PrintLast Go.Proofs.YtcfhmbhlibhlnaaDoorW.PrintMore Go.Proofs.YtcfhmbhlibhlnaaDoor.Mine
attribute [local go_sem] ext71 ext79 eqA61 eqA62
attribute [local go_sem] max2_int min2_int max_two min_two max_three min_three max_four min_four   -- for this text's walks alone
set_option linter.unusedVariables false
set_option linter.unusedSimpArgs false

/-! ### tumblerref01_Sign: function 51 -/
def tumblerref01_Sign.f (k : Nat) (a0_0 : Int) (a0_1 : Int) : Option (Int) := (tumblerref01_From.f k a0_0 a0_1).bind fun bt758 => ((tumblerref01_CmpN.f k bt758.1 bt758.2 false ([] : List Int)).bind fun t762 => (some t762))
theorem tumblerref01_Sign.mono : ∀ a0 a1 k, LeO (tumblerref01_Sign.f k a0 a1) (tumblerref01_Sign.f (k + 1) a0 a1) := by
 intro a0 a1 k
 unfold tumblerref01_Sign.f
 repeat' first
  | (with_reducible exact tumblerref01_CmpN.mono _ _ _ _ _)
  | (with_reducible exact tumblerref01_From.mono _ _ _)
  | (with_reducible exact LeO.refl _)
  | (with_reducible exact LeO.none _)
  | (with_reducible refine LeO.ite ?_ ?_)
  | (with_reducible refine LeO.bind ?_ (fun _ => ?_))
  | exact tumblerref01_CmpN.mono _ _ _ _ _
  | exact tumblerref01_From.mono _ _ _
  | exact LeO.none _
  | refine LeO.ite ?_ ?_
  | refine LeO.bind ?_ (fun _ => ?_)
set_option maxHeartbeats 8000000 in
set_option maxRecDepth 100000 in
theorem tumblerref01_Sign.calls (k : Nat) (a0_0 : Int) (a0_1 : Int) (r : Int) (w : World) (h : tumblerref01_Sign.f k a0_0 a0_1 = some r) :
 Calls Tryd.prog 51 #[.agg #[.int .i64 a0_0, .int .u64 a0_1]] w fun e w' => e = .returned (.int .i64 r) ∧ Below w.heap.size w w' := by
 have hu24 := Tryd.underlying24; have hu71 := Tryd.underlying71; have HB := am (Below.refl w.heap.size w); have H : ((tumblerref01_From.f k a0_0 a0_1).bind fun bt758 => ((tumblerref01_CmpN.f k bt758.1 bt758.2 false ([] : List Int)).bind fun t762 => (some t762))) = some r := h; clear h
 replace H := Option.bind_eq_some_iff.mp H
 obtain ⟨⟨t758, t759⟩, A20, H⟩ := H
 replace H : ((tumblerref01_CmpN.f k t758 t759 false ([] : List Int)).bind fun t762 => (some t762)) = some r := H
 have A2 := Aside0.mk A20; clear A20
 replace H := Option.bind_eq_some_iff.mp H
 obtain ⟨t762, A30, H⟩ := H
 replace H : (some t762) = some r := H
 have A3 := Aside0.mk A30; clear A30
 obtain rfl := Option.some.inj H
 go_enter Tryd.func51, Tryd.ntmps51
 go_wp2_with (first | ((with_reducible refine gate_dst (N := 1) rfl ?_); refine box_event ?hg (N := 1) ?hd (cs := #[.int .i64 a0_0, .int .u64 a0_1]) (t := 24) ?hr ?_; (case hd => rfl); (case hg => rfl); (case hr => first | (go_simp; done) | (go_simp; rfl)); intro gb757 hg w4 hbox hb; have n0_ := am (below_step bz hb); have n1_ := am (hbox); have n2_ := am ((by rw [hg]; exact (below_size bz) : w.heap.size ≤ gb757)); have n3_ := am ((by rw [hg]; exact (below_size bz) : w.heap.size ≤ gb757)); clear HB; have HB := n0_; have BK757 := n1_; have GW757 := n2_; have GE757 := n3_; clear n0_ n1_ n2_ n3_; clear hb hbox hg; have hcz5_0 : w4.cell? ⟨gb757, 0, none⟩ = some (.int .i64 a0_0) := (blk_cell BK757.out 0).trans rfl; have hcz5_1 : w4.cell? ⟨gb757, 1, none⟩ = some (.int .u64 a0_1) := (blk_cell BK757.out 1).trans rfl; have hfz5_0 := blk_frozen BK757.out 0; have hfz5_1 := blk_frozen BK757.out 1) | ((with_reducible refine gate_callee (f := 69) rfl ?_); refine goesL_ (some 4) rfl rfl Tryd.func69 (by kernel_rfl) rfl #[.agg #[.int .i64 a0_0, .int .u64 a0_1]] rfl (by (try simp only [List.map_toArray, List.map_cons, List.map_nil]); first | done | rfl | (simp only [List.length_drop, List.length_take]; rfl)) ?_; (with_reducible refine (tumblerref01_From.calls k a0_0 a0_1 t758 t759 _ A2.out).mono ?_); rintro e w6 ⟨v760, rfl, ho0, hb⟩; refine ⟨_, rfl, ?_⟩; have n0_ := am (Kd.V_lower (Kd.V_mono (ok' := fun k_ => k_ ≠ gb757) ho0 (fun k_ hk_ => (Kd.freshB (g := gb757) (o := .cells #[.int .i64 a0_0, .int .u64 a0_1] 24 (0, 0)) (bq BK757) k_ hk_))) (below_size bz)); have n1_ := am (bb BK757 hb); have n2_ := am (below_step bz hb); clear BK757; clear HB; have HO761 := n0_; have BK757 := n1_; have HB := n2_; clear n0_ n1_ n2_; (try clear hb); (try clear hb2); (try clear hk); (try clear hi); (try clear ho0); obtain ⟨Ao7, co7, eo7⟩ := Kd.V_slice HO761.out; subst eo7) | ((with_reducible refine gate_callee (f := 82) rfl ?_); refine goesL_ (some 6) rfl rfl Tryd.func82 (by kernel_rfl) rfl #[.agg #[.bool t758, .slice Ao7 t759.length co7], .agg #[.bool false, .slice none 0 0]] rfl (by (try simp only [List.map_toArray, List.map_cons, List.map_nil]); first | done | rfl | (simp only [List.length_drop, List.length_take]; rfl)) ?_; (refine (tumblerref01_CmpN.calls k t758 _ _ t759 false _ _ ([] : List Int) t762 _ ?side1 ?side2 ?side3 ?side4 A3.out).mono ?_); (case side1 => repeat (first | exact (Kd.V_reads' HO761.out).2.2 | (with_reducible refine Kd.C_alloc ?_ _) | (with_reducible refine Kd.C_drewN ?_ _) | (with_reducible refine Kd.C_drew ?_))); (case side2 => exact (Kd.V_reads' HO761.out).2.1); (case side3 => exact Kd.C_nil _ _); (case side4 => exact Nat.le_refl _); rintro e w8 ⟨rfl, hb⟩; refine ⟨_, rfl, ?_⟩; have n0_ := am (Kd.V_below (by (with_reducible repeat (first | apply Kd.V_alloc | apply Kd.V_drewN | apply Kd.V_drew)); exact HO761.out) hb); have n1_ := am (bb BK757 hb); have n2_ := am (below_step bz hb); clear HO761; clear BK757; clear HB; have HO761 := n0_; have BK757 := n1_; have HB := n2_; clear n0_ n1_ n2_; (try clear hb); (try clear hb2); (try clear hk); (try clear hi)))
 go_ret
 exact ⟨by first | rfl | (simp [errW_none, errW_some] <;> rfl) | (simp [*, errW_none, errW_some] <;> rfl), by repeat (first | (with_reducible first | exact HB.out | apply dA | apply dB | apply dC | refine dE ?_ ‹_›) | exact HB.out)⟩

end Go.Proofs.YtcfhmbhlibhlnaaDoor.P
