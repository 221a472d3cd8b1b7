-- Printed by this session's own pp.py (wip/tool) out of the translation.
import Derived.Test.YtcfhmbhlibhlnaaDoorPx0
import Derived.Test.YtcfhmbhlibhlnaaDoorPxf69
import Derived.Test.YtcfhmbhlibhlnaaDoorPxf48
namespace Go.Proofs.YtcfhmbhlibhlnaaDoor.P
open Go.RowKit Go.Proofs.YtcfhmbhlibhlnaaDoorW.PrintWords Go.Proofs.YtcfhmbhlibhlnaaDoorW.PrintLast Go.Proofs.YtcfhmbhlibhlnaaDoorW.PrintMore Go.Proofs.YtcfhmbhlibhlnaaDoor.Mine
attribute [local go_sem] ext71 ext79 eqA61 eqA62
attribute [local go_sem] max2_int min2_int max_two min_two max_three min_three max_four min_four   -- for this text's walks alone
set_option linter.unusedVariables false
set_option linter.unusedSimpArgs false

/-! ### tumblerref01_Int: function 86 -/
def tumblerref01_Int.f (k : Nat) (a0 : Int) : Option (Bool × List Int) := (tumblerref01_Of.f a0).bind fun bt875 => ((tumblerref01_From.f k bt875.1 bt875.2).bind fun bt877 => (some (bt877.1, bt877.2)))
theorem tumblerref01_Int.mono : ∀ a0 k, LeO (tumblerref01_Int.f k a0) (tumblerref01_Int.f (k + 1) a0) := by
 intro a0 k
 unfold tumblerref01_Int.f
 repeat' first
  | (with_reducible exact tumblerref01_From.mono _ _ _)
  | (with_reducible exact LeO.refl _)
  | (with_reducible exact LeO.none _)
  | (with_reducible refine LeO.ite ?_ ?_)
  | (with_reducible refine LeO.bind ?_ (fun _ => ?_))
  | exact tumblerref01_From.mono _ _ _
  | exact LeO.none _
  | refine LeO.ite ?_ ?_
  | refine LeO.bind ?_ (fun _ => ?_)
set_option maxHeartbeats 8000000 in
set_option maxRecDepth 100000 in
theorem tumblerref01_Int.calls (k : Nat) (a0 : Int) (r1 : Bool) (r2 : List Int) (w : World) (h : tumblerref01_Int.f k a0 = some (r1, r2)) :
 Calls Tryd.prog 86 #[.int .i64 a0] w fun e w' => ∃ v1_ : Value, e = .returned (.agg #[.bool r1, v1_]) ∧ Kd.V (Kd.int .u32) 121 w' w.heap.size (fun k_ => (w.heap.size ≤ k_)) v1_ r2 ∧ Below w.heap.size w w' := by
 have hu71 := Tryd.underlying71; have HB := am (Below.refl w.heap.size w); have H : ((tumblerref01_Of.f a0).bind fun bt875 => ((tumblerref01_From.f k bt875.1 bt875.2).bind fun bt877 => (some (bt877.1, bt877.2)))) = some (r1, r2) := h; clear h
 replace H := Option.bind_eq_some_iff.mp H
 obtain ⟨⟨t875, t876⟩, A20, H⟩ := H
 replace H : ((tumblerref01_From.f k t875 t876).bind fun bt877 => (some (bt877.1, bt877.2))) = some (r1, r2) := H
 have A2 := Aside0.mk A20; clear A20
 replace H := Option.bind_eq_some_iff.mp H
 obtain ⟨⟨t877, t878⟩, A30, H⟩ := H
 replace H : (some (t877, t878)) = some (r1, r2) := H
 have A3 := Aside0.mk A30; clear A30
 simp only [Option.some.injEq, Prod.mk.injEq] at H
 obtain ⟨rfl, rfl⟩ := H
 go_enter Tryd.func86, Tryd.ntmps86
 go_wp2_with (first | ((with_reducible refine gate_dst (N := 2) rfl ?_); refine box_event ?hg (N := 2) ?hd (cs := #[.bool false, .slice none 0 0]) (t := 71) ?hr ?_; (case hd => rfl); (case hg => rfl); (case hr => first | (go_simp; done) | (go_simp; rfl)); intro gb874 hg w4 hbox hb; have n0_ := am (below_step bz hb); have n1_ := am (hbox); have n2_ := am ((by rw [hg]; exact (below_size bz) : w.heap.size ≤ gb874)); have n3_ := am ((by rw [hg]; exact (below_size bz) : w.heap.size ≤ gb874)); clear HB; have HB := n0_; have BK874 := n1_; have GW874 := n2_; have GE874 := n3_; clear n0_ n1_ n2_ n3_; clear hb hbox hg) | ((with_reducible refine gate_callee (f := 48) rfl ?_); refine goesL_ (some 4) rfl rfl Tryd.func48 (by kernel_rfl) rfl #[.int .i64 a0] rfl (by (try simp only [List.map_toArray, List.map_cons, List.map_nil]); first | done | rfl | (simp only [List.length_drop, List.length_take]; rfl)) ?_; (with_reducible refine (tumblerref01_Of.calls a0 t875 t876 _ A2.out).mono ?_); rintro e w5 ⟨rfl, hb⟩; refine ⟨_, rfl, ?_⟩; have n0_ := am (bb BK874 hb); have n1_ := am (below_step bz hb); clear BK874; clear HB; have BK874 := n0_; have HB := n1_; clear n0_ n1_; (try clear hb); (try clear hb2); (try clear hk); (try clear hi)) | ((with_reducible refine gate_callee (f := 69) rfl ?_); refine goesL_ (some 5) rfl rfl Tryd.func69 (by kernel_rfl) rfl #[.agg #[.int .i64 t875, .int .u64 t876]] rfl (by (try simp only [List.map_toArray, List.map_cons, List.map_nil]); first | done | rfl | (simp only [List.length_drop, List.length_take]; rfl)) ?_; (with_reducible refine (tumblerref01_From.calls k t875 t876 t877 t878 _ A3.out).mono ?_); rintro e w6 ⟨v879, rfl, ho0, hb⟩; refine ⟨_, rfl, ?_⟩; have n0_ := am (Kd.V_lower (Kd.V_mono (ok' := fun k_ => (w.heap.size ≤ k_) ∧ k_ ≠ gb874) ho0 (fun k_ hk_ => ⟨(Nat.le_trans (below_size bz) hk_), (Kd.freshB (g := gb874) (o := .cells #[.bool false, .slice none 0 0] 71 (0, 0)) (bq BK874) k_ hk_)⟩)) (below_size bz)); have n1_ := am (bb BK874 hb); have n2_ := am (below_step bz hb); clear BK874; clear HB; have HO880 := n0_; have BK874 := n1_; have HB := n2_; clear n0_ n1_ n2_; (try clear hb); (try clear hb2); (try clear hk); (try clear hi); (try clear ho0); have hcz7_0 : w6.cell? ⟨gb874, 0, none⟩ = some (.bool false) := (blk_cell BK874.out 0).trans rfl; have hcz7_1 : w6.cell? ⟨gb874, 1, none⟩ = some (.slice none 0 0) := (blk_cell BK874.out 1).trans rfl; have hfz7_0 := blk_frozen BK874.out 0; have hfz7_1 := blk_frozen BK874.out 1; obtain ⟨Ao8, co8, eo8⟩ := Kd.V_slice HO880.out; subst eo8))
 refine bodyPost_ret (results_cell_row rfl _ _ gb874 71 #[.bool t877, .slice Ao8 t878.length co8] (0, 0) _ rfl (by (with_reducible repeat (first | apply bA | apply bB | apply bC)); refine blk_put (cs := #[.bool t877, .slice none 0 0]) ?_ 1 _ rfl; (with_reducible repeat (first | apply bA | apply bB | apply bC)); refine blk_put (cs := #[.bool false, .slice none 0 0]) ?_ 0 _ rfl; (with_reducible repeat (first | apply bA | apply bB | apply bC)); exact BK874.out) Tryd.underlying71 rfl (by kernel_rfl)) rfl ?_
 exact ⟨_, by first | rfl | (simp [errW_none, errW_some] <;> rfl) | (simp [*, errW_none, errW_some] <;> rfl), by (with_reducible repeat (first | apply Kd.V_alloc | apply Kd.V_drewN | apply Kd.V_drew)); exact Kd.V_mono (Kd.V_far (p := ⟨gb874, 1, none⟩) (Kd.V_far (p := ⟨gb874, 0, none⟩) (Kd.V_mono HO880.out (fun k_ hk => (⟨hk, hk.2⟩ : _ ∧ k_ ≠ gb874))) (fun _ hk => hk.2) (.bool t877)) (fun _ hk => hk.2) (.slice Ao8 t878.length co8)) (fun _ hk => hk.1.1), by repeat (first | (with_reducible first | exact HB.out | apply dA | apply dB | apply dC | refine dE ?_ ‹_›) | exact HB.out)⟩

end Go.Proofs.YtcfhmbhlibhlnaaDoor.P
