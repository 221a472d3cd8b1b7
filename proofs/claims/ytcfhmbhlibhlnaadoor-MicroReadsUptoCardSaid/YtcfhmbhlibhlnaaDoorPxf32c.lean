-- Printed by this session's own pp.py (wip/tool) out of the translation.
import Derived.Test.YtcfhmbhlibhlnaaDoorPx0
import Derived.Test.YtcfhmbhlibhlnaaDoorPxg0
import Derived.Test.YtcfhmbhlibhlnaaDoorPxf65
import Derived.Test.YtcfhmbhlibhlnaaDoorPxf72
namespace Go.Proofs.YtcfhmbhlibhlnaaDoor.P
open Go.RowKit Go.Proofs.YtcfhmbhlibhlnaaDoorW.PrintWords Go.Proofs.YtcfhmbhlibhlnaaDoorW.PrintLast Go.Proofs.YtcfhmbhlibhlnaaDoorW.PrintMore Go.Proofs.YtcfhmbhlibhlnaaDoor.Mine
attribute [local go_sem] ext71 ext79 eqA61 eqA62
attribute [local go_sem] max2_int min2_int max_two min_two max_three min_three max_four min_four   -- for this text's walks alone
set_option linter.unusedVariables false
set_option linter.unusedSimpArgs false

attribute [local go_sem high] eqA24
/-! ### wide_Quo: function 32 -/
set_option maxHeartbeats 8000000 in
set_option maxRecDepth 100000 in
theorem wide_Quo.calls_b (k : Nat) (a0_0 : Int) (a0_1 : Int) (a1_0 : Int) (a1_1 : Int) (r1 : Int) (r2 : Int) (r3 : Int) (r4 : Int) (r5 : Int) (w : World) (h : wide_Quo.f k a0_0 a0_1 a1_0 a1_1 = some (r1, r2, r3, r4, r5)) (hr : ¬ r5 = 0) :
 Calls Tryd.prog 32 #[.agg #[.int .i64 a0_0, .int .u64 a0_1], .agg #[.int .i64 a1_0, .int .u64 a1_1]] w fun e w' => e = .returned (.tuple #[.agg #[.int .i64 r1, .int .u64 r2], .agg #[.int .i64 r3, .int .u64 r4], .int .i64 r5]) ∧ Below w.heap.size w w' := by
 have hu24 := Tryd.underlying24; have hu62 := Tryd.underlying62; have HB := am (Below.refl w.heap.size w); have H : (if (a1_0 == 0 && (a1_1 == 0)) = true then (some (0, 0, 0, 0, 11)) else ((wide_amount.f a0_0 a0_1).bind fun bt294 => ((wide_amount.f a1_0 a1_1).bind fun bt296 => ((wide_divided.f k bt294.1 bt294.2 bt296.1 bt296.2).bind fun bt298 => ((wide_signed.f k bt298.1 bt298.2.1 ((decide (a0_0 < 0)) != (decide (a1_0 < 0)))).bind fun bt304 => (if bt304.2.2 = 0 then ((wide_signed.f k bt298.2.2.1 bt298.2.2.2 (decide (a0_0 < 0))).bind fun bt308 => (some (bt304.1, bt304.2.1, bt308.1, bt308.2.1, 0))) else (some (0, 0, 0, 0, bt304.2.2)))))))) = some (r1, r2, r3, r4, r5) := h; clear h
 by_cases c3 : (a1_0 == 0 && (a1_1 == 0)) = true
 · rw [if_pos c3] at H
   have c3b0 : (a1_0 == 0 && (a1_1 == 0)) = true := c3; (try (have c3b1 : decide (a1_0 = 0 && (a1_1 == 0)) = true := by simpa using c3)); (try (have c3b2 : (a1_0 == 0 && (a1_1 == 0)) = true := by simpa using c3)); clear c3
   simp only [Option.some.injEq, Prod.mk.injEq] at H
   obtain ⟨rfl, rfl, rfl, rfl, rfl⟩ := H
   go_enter Tryd.func32, Tryd.ntmps32
   go_wp2_with (first | ((with_reducible refine gate_dst (N := 2) rfl ?_); refine box_event (by rfl) (N := 2) (by rfl) (cs := #[.int .i64 a0_0, .int .u64 a0_1]) (t := 24) (by go_simp <;> rfl) ?_; intro gb290 hg w4 hbox hb; have BK290 := am (hbox); have GW290 := gw w hg; replace HB := am (below_step bz hb); clear hb hbox hg) | ((with_reducible refine gate_dst (N := 3) rfl ?_); refine box_event (by rfl) (N := 3) (by rfl) (cs := #[.int .i64 a1_0, .int .u64 a1_1]) (t := 24) (by go_simp <;> rfl) ?_; intro gb291 hg w5 hbox hb; have BK291 := am (hbox); have GW291 := gw w hg; replace HB := am (below_step bz hb); have NB290_291 := nl BK290 hg; have NB291_290 := nr BK290 hg; replace BK290 := am (bb BK290 hb); clear hb hbox hg) | ((with_reducible refine gate_dst (N := 4) rfl ?_); refine box_event (by rfl) (N := 4) (by rfl) (cs := #[.int .i64 0, .int .u64 0]) (t := 24) (by go_simp <;> rfl) ?_; intro gb292 hg w6 hbox hb; have BK292 := am (hbox); have GW292 := gw w hg; replace HB := am (below_step bz hb); have NB290_292 := nl BK290 hg; have NB292_290 := nr BK290 hg; replace BK290 := am (bb BK290 hb); have NB291_292 := nl BK291 hg; have NB292_291 := nr BK291 hg; replace BK291 := am (bb BK291 hb); clear hb hbox hg) | ((with_reducible refine gate_dst (N := 5) rfl ?_); refine box_event (by rfl) (N := 5) (by rfl) (cs := #[.int .i64 0, .int .u64 0]) (t := 24) (by go_simp <;> rfl) ?_; intro gb293 hg w7 hbox hb; have BK293 := am (hbox); have GW293 := gw w hg; replace HB := am (below_step bz hb); have NB290_293 := nl BK290 hg; have NB293_290 := nr BK290 hg; replace BK290 := am (bb BK290 hb); have NB291_293 := nl BK291 hg; have NB293_291 := nr BK291 hg; replace BK291 := am (bb BK291 hb); have NB292_293 := nl BK292 hg; have NB293_292 := nr BK292 hg; replace BK292 := am (bb BK292 hb); clear hb hbox hg; have hnb8 := NB291_290.out; have hnc8 := NB290_291.out; have hnb9 := NB291_292.out; have hnc9 := NB292_291.out; have hnb10 := NB291_293.out; have hnc10 := NB293_291.out; have hcz11_0 : w7.cell? ⟨gb291, 0, none⟩ = some (.int .i64 a1_0) := bc BK291 0; have hcz11_1 : w7.cell? ⟨gb291, 1, none⟩ = some (.int .u64 a1_1) := bc BK291 1; have hfz11_0 := blk_frozen BK291.out 0; have hfz11_1 := blk_frozen BK291.out 1; have hnb12 := NB292_290.out; have hnc12 := NB290_292.out; have hnb13 := NB292_293.out; have hnc13 := NB293_292.out; have hcz14_0 : w7.cell? ⟨gb292, 0, none⟩ = some (.int .i64 0) := bc BK292 0; have hcz14_1 : w7.cell? ⟨gb292, 1, none⟩ = some (.int .u64 0) := bc BK292 1; have hfz14_0 := blk_frozen BK292.out 0; have hfz14_1 := blk_frozen BK292.out 1; have hnb15 := NB293_290.out; have hnc15 := NB290_293.out; have hcz16_0 : w7.cell? ⟨gb293, 0, none⟩ = some (.int .i64 0) := bc BK293 0; have hcz16_1 : w7.cell? ⟨gb293, 1, none⟩ = some (.int .u64 0) := bc BK293 1; have hfz16_0 := blk_frozen BK293.out 0; have hfz16_1 := blk_frozen BK293.out 1))
   refine bodyPost_ret (results_list (rs := [.cell 4 24, .cell 5 24, .tmp 6]) rfl (by simp) (.cell gb292 24 #[.int .i64 0, .int .u64 0] (0, 0) _ rfl (blk_far (blk_far (blk_put (blk_put BK292.out 0 _ rfl) 1 _ rfl) NB292_293.out _) NB292_293.out _) Tryd.underlying24 rfl (by kernel_rfl) (.cell gb293 24 #[.int .i64 0, .int .u64 0] (0, 0) _ rfl (blk_put (blk_put (blk_far (blk_far BK293.out NB293_292.out _) NB293_292.out _) 0 _ rfl) 1 _ rfl) Tryd.underlying24 rfl (by kernel_rfl) (.tmp .nil)))) rfl ?_
   exact ⟨rg, bz⟩
 · rw [if_neg c3] at H
   have c3b0 : (a1_0 == 0 && (a1_1 == 0)) = false := by simpa using c3
   (try (have c3b1 : decide (a1_0 = 0 && (a1_1 == 0)) = false := by simpa using c3)); (try (have c3b2 : (a1_0 == 0 && (a1_1 == 0)) = false := by simpa using c3)); (try (have c3b3 : ¬ (a1_0 = 0 && (a1_1 == 0)) := by simpa using c3)); clear c3
   replace H := Option.bind_eq_some_iff.mp H
   obtain ⟨⟨t294, t295⟩, A170, H⟩ := H
   replace H : ((wide_amount.f a1_0 a1_1).bind fun bt296 => ((wide_divided.f k t294 t295 bt296.1 bt296.2).bind fun bt298 => ((wide_signed.f k bt298.1 bt298.2.1 ((decide (a0_0 < 0)) != (decide (a1_0 < 0)))).bind fun bt304 => (if bt304.2.2 = 0 then ((wide_signed.f k bt298.2.2.1 bt298.2.2.2 (decide (a0_0 < 0))).bind fun bt308 => (some (bt304.1, bt304.2.1, bt308.1, bt308.2.1, 0))) else (some (0, 0, 0, 0, bt304.2.2)))))) = some (r1, r2, r3, r4, r5) := H
   have A17 := Aside0.mk A170; clear A170
   replace H := Option.bind_eq_some_iff.mp H
   obtain ⟨⟨t296, t297⟩, A180, H⟩ := H
   replace H : ((wide_divided.f k t294 t295 t296 t297).bind fun bt298 => ((wide_signed.f k bt298.1 bt298.2.1 ((decide (a0_0 < 0)) != (decide (a1_0 < 0)))).bind fun bt304 => (if bt304.2.2 = 0 then ((wide_signed.f k bt298.2.2.1 bt298.2.2.2 (decide (a0_0 < 0))).bind fun bt308 => (some (bt304.1, bt304.2.1, bt308.1, bt308.2.1, 0))) else (some (0, 0, 0, 0, bt304.2.2))))) = some (r1, r2, r3, r4, r5) := H
   have A18 := Aside0.mk A180; clear A180
   replace H := Option.bind_eq_some_iff.mp H
   obtain ⟨⟨t298, t299, t300, t301⟩, A190, H⟩ := H
   replace H : ((wide_signed.f k t298 t299 ((decide (a0_0 < 0)) != (decide (a1_0 < 0)))).bind fun bt304 => (if bt304.2.2 = 0 then ((wide_signed.f k t300 t301 (decide (a0_0 < 0))).bind fun bt308 => (some (bt304.1, bt304.2.1, bt308.1, bt308.2.1, 0))) else (some (0, 0, 0, 0, bt304.2.2)))) = some (r1, r2, r3, r4, r5) := H
   have A19 := Aside0.mk A190; clear A190
   replace H := Option.bind_eq_some_iff.mp H
   obtain ⟨⟨t304, t305, t306⟩, A200, H⟩ := H
   replace H : (if t306 = 0 then ((wide_signed.f k t300 t301 (decide (a0_0 < 0))).bind fun bt308 => (some (t304, t305, bt308.1, bt308.2.1, 0))) else (some (0, 0, 0, 0, t306))) = some (r1, r2, r3, r4, r5) := H
   have A20 := Aside0.mk A200; clear A200
   by_cases c21 : t306 = 0
   · rw [if_pos c21] at H
     have c21b0 : (t306 == 0) = true := beq_iff_eq.mpr c21; have c21b1 : (t306 != 0) = false := bne_eq_false_iff_eq.mpr c21; clear c21
     replace H := Option.bind_eq_some_iff.mp H
     obtain ⟨⟨t308, t309, t310⟩, A220, H⟩ := H
     replace H : (some (t304, t305, t308, t309, 0)) = some (r1, r2, r3, r4, r5) := H
     have A22 := Aside0.mk A220; clear A220
     simp only [Option.some.injEq, Prod.mk.injEq] at H
     obtain ⟨rfl, rfl, rfl, rfl, rfl⟩ := H
     exact absurd rfl hr
   · rw [if_neg c21] at H
     have c21b0 : (t306 == 0) = false := beq_eq_false_iff_ne.mpr c21; have c21b1 : (t306 != 0) = true := bne_iff_ne.mpr c21
     simp only [Option.some.injEq, Prod.mk.injEq] at H
     obtain ⟨rfl, rfl, rfl, rfl, rfl⟩ := H
     go_enter Tryd.func32, Tryd.ntmps32
     try go_wp2_with (first | ((with_reducible refine gate_dst (N := 2) rfl ?_); refine box_event (by rfl) (N := 2) (by rfl) (cs := #[.int .i64 a0_0, .int .u64 a0_1]) (t := 24) (by go_simp <;> rfl) ?_; intro gb290 hg w83 hbox hb; have BK290 := am (hbox); have GW290 := gw w hg; replace HB := am (below_step bz hb); clear hb hbox hg) | ((with_reducible refine gate_dst (N := 3) rfl ?_); refine box_event (by rfl) (N := 3) (by rfl) (cs := #[.int .i64 a1_0, .int .u64 a1_1]) (t := 24) (by go_simp <;> rfl) ?_; intro gb291 hg w84 hbox hb; have BK291 := am (hbox); have GW291 := gw w hg; replace HB := am (below_step bz hb); have NB290_291 := nl BK290 hg; have NB291_290 := nr BK290 hg; replace BK290 := am (bb BK290 hb); clear hb hbox hg) | ((with_reducible refine gate_dst (N := 4) rfl ?_); refine box_event (by rfl) (N := 4) (by rfl) (cs := #[.int .i64 0, .int .u64 0]) (t := 24) (by go_simp <;> rfl) ?_; intro gb292 hg w85 hbox hb; have BK292 := am (hbox); have GW292 := gw w hg; replace HB := am (below_step bz hb); have NB290_292 := nl BK290 hg; have NB292_290 := nr BK290 hg; replace BK290 := am (bb BK290 hb); have NB291_292 := nl BK291 hg; have NB292_291 := nr BK291 hg; replace BK291 := am (bb BK291 hb); clear hb hbox hg) | ((with_reducible refine gate_dst (N := 5) rfl ?_); refine box_event (by rfl) (N := 5) (by rfl) (cs := #[.int .i64 0, .int .u64 0]) (t := 24) (by go_simp <;> rfl) ?_; intro gb293 hg w86 hbox hb; have BK293 := am (hbox); have GW293 := gw w hg; replace HB := am (below_step bz hb); have NB290_293 := nl BK290 hg; have NB293_290 := nr BK290 hg; replace BK290 := am (bb BK290 hb); have NB291_293 := nl BK291 hg; have NB293_291 := nr BK291 hg; replace BK291 := am (bb BK291 hb); have NB292_293 := nl BK292 hg; have NB293_292 := nr BK292 hg; replace BK292 := am (bb BK292 hb); clear hb hbox hg; have hnb87 := NB291_290.out; have hnc87 := NB290_291.out; have hnb88 := NB291_292.out; have hnc88 := NB292_291.out; have hnb89 := NB291_293.out; have hnc89 := NB293_291.out; have hcz90_0 : w86.cell? ⟨gb291, 0, none⟩ = some (.int .i64 a1_0) := bc BK291 0; have hcz90_1 : w86.cell? ⟨gb291, 1, none⟩ = some (.int .u64 a1_1) := bc BK291 1; have hfz90_0 := blk_frozen BK291.out 0; have hfz90_1 := blk_frozen BK291.out 1))
     replace BK290 := am (blk_drew BK290.out); replace BK291 := am (blk_drew BK291.out); replace BK292 := am (blk_drew BK292.out); replace BK293 := am (blk_drew BK293.out); replace HB := am (below_drew1 HB.out)
     refine start_ (n := 12) (S := fun w' => w'.cell? ⟨gb290, 0, none⟩ = some (.int .i64 a0_0) ∧ w'.cell? ⟨gb290, 1, none⟩ = some (.int .u64 a0_1) ∧ w'.cell? ⟨gb291, 0, none⟩ = some (.int .i64 a1_0) ∧ w'.cell? ⟨gb291, 1, none⟩ = some (.int .u64 a1_1)) (ds := []) #[false, false, false, false, false, false, false, false, false, false, false, false] (by kernel_rfl) rfl rfl ⟨bc BK290 0, bc BK290 1, bc BK291 0, bc BK291 1⟩ (fun hHeld => ?_); refine with_tabW wide_Quo.tab3 wide_Quo.bits3 (fun HT_ HW_ => ?_)
     generalize w86.drew = w91 at BK290 BK291 BK292 BK293 HB hHeld ⊢
     refine take_ (i := 0) (N := some 19) (v := ?_) (a' := ?_) #[true, false, false, false, false, false, false, false, false, false, false, false] rfl rfl (take_ofW HT_.out HW_.out (by kernel_rfl)) (fun _ _ _ h => h) (Or.inl ⟨by rfl, ?_⟩) hHeld ?_ ?_
     rotate_left
     · rintro w' ⟨s0, s1, s2, s3⟩
       go_simp
       with_reducible rfl
     rotate_left
     · simp only [Act.put, List.setIfInBounds_toArray, List.set_cons_zero, List.set_cons_succ, i64_w, i32_w]
       rfl
     refine take_ (i := 2) (N := some 21) (v := ?_) (a' := ?_) #[true, false, true, false, false, false, false, false, false, false, false, false] rfl rfl (take_ofW HT_.out HW_.out (by kernel_rfl)) (fun _ _ _ h => h) (Or.inl ⟨by rfl, ?_⟩) hHeld ?_ ?_
     rotate_left
     · rintro w' ⟨s0, s1, s2, s3⟩
       go_simp
       with_reducible rfl
     rotate_left
     · simp only [Act.put, List.setIfInBounds_toArray, List.set_cons_zero, List.set_cons_succ, i64_w, i32_w]
       rfl
     refine join_ (σ := Nat × Nat) 2 #[true, true, true, true, true, true, true, true, true, true, false, false] (fun s_ => [(20, .agg #[.int .u64 t294, .int .u64 t295]), (22, .agg #[.int .u64 t296, .int .u64 t297]), (23, .tuple #[.agg #[.int .u64 t298, .int .u64 t299], .agg #[.int .u64 t300, .int .u64 t301]]), (7, .pointer (some ⟨s_.1, 0, none⟩)), (8, .pointer (some ⟨s_.2, 0, none⟩)), (18, .tuple #[.agg #[.int .u64 t298, .int .u64 t299], .agg #[.int .u64 t300, .int .u64 t301]]), (24, .agg #[.int .u64 t298, .int .u64 t299]), (25, .agg #[.int .u64 t300, .int .u64 t301])]) (fun s_ w' => (w'.cell? ⟨gb290, 0, none⟩ = some (.int .i64 a0_0) ∧ w'.cell? ⟨gb290, 1, none⟩ = some (.int .u64 a0_1) ∧ w'.cell? ⟨gb291, 0, none⟩ = some (.int .i64 a1_0) ∧ w'.cell? ⟨gb291, 1, none⟩ = some (.int .u64 a1_1)) ∧ (w'.heap[gb290]? = some (.cells #[.int .i64 a0_0, .int .u64 a0_1] 24 (0, 0))) ∧ (w'.heap[gb291]? = some (.cells #[.int .i64 a1_0, .int .u64 a1_1] 24 (0, 0))) ∧ (w'.heap[gb292]? = some (.cells #[.int .i64 0, .int .u64 0] 24 (0, 0))) ∧ (w'.heap[gb293]? = some (.cells #[.int .i64 0, .int .u64 0] 24 (0, 0))) ∧ (w'.heap[s_.1]? = some (.cells #[.int .u64 0, .int .u64 0] 62 (0, 0))) ∧ (w'.heap[s_.2]? = some (.cells #[.int .u64 0, .int .u64 0] 62 (0, 0))) ∧ (w.heap.size ≤ s_.1) ∧ (gb290 ≠ s_.1) ∧ (s_.1 ≠ gb290) ∧ (gb291 ≠ s_.1) ∧ (s_.1 ≠ gb291) ∧ (gb292 ≠ s_.1) ∧ (s_.1 ≠ gb292) ∧ (gb293 ≠ s_.1) ∧ (s_.1 ≠ gb293) ∧ (s_.2 ≠ s_.1) ∧ (s_.1 ≠ s_.2) ∧ (w.heap.size ≤ s_.2) ∧ (gb290 ≠ s_.2) ∧ (s_.2 ≠ gb290) ∧ (gb291 ≠ s_.2) ∧ (s_.2 ≠ gb291) ∧ (gb292 ≠ s_.2) ∧ (s_.2 ≠ gb292) ∧ (gb293 ≠ s_.2) ∧ (s_.2 ≠ gb293) ∧ (Below w.heap.size w w')) ?_ ?_
     rotate_left
     · intro hJ1_3_4_8_9
       refine join_ (σ := Nat) 3 #[true, true, true, true, true, true, true, true, true, false, false, false] (fun s_ => [(20, .agg #[.int .u64 t294, .int .u64 t295]), (22, .agg #[.int .u64 t296, .int .u64 t297]), (23, .tuple #[.agg #[.int .u64 t298, .int .u64 t299], .agg #[.int .u64 t300, .int .u64 t301]]), (7, .pointer (some ⟨s_, 0, none⟩)), (18, .tuple #[.agg #[.int .u64 t298, .int .u64 t299], .agg #[.int .u64 t300, .int .u64 t301]]), (24, .agg #[.int .u64 t298, .int .u64 t299]), (25, .agg #[.int .u64 t300, .int .u64 t301])]) (fun s_ w' => (w'.cell? ⟨gb290, 0, none⟩ = some (.int .i64 a0_0) ∧ w'.cell? ⟨gb290, 1, none⟩ = some (.int .u64 a0_1) ∧ w'.cell? ⟨gb291, 0, none⟩ = some (.int .i64 a1_0) ∧ w'.cell? ⟨gb291, 1, none⟩ = some (.int .u64 a1_1)) ∧ (w'.heap[gb290]? = some (.cells #[.int .i64 a0_0, .int .u64 a0_1] 24 (0, 0))) ∧ (w'.heap[gb291]? = some (.cells #[.int .i64 a1_0, .int .u64 a1_1] 24 (0, 0))) ∧ (w'.heap[gb292]? = some (.cells #[.int .i64 0, .int .u64 0] 24 (0, 0))) ∧ (w'.heap[gb293]? = some (.cells #[.int .i64 0, .int .u64 0] 24 (0, 0))) ∧ (w'.heap[s_]? = some (.cells #[.int .u64 0, .int .u64 0] 62 (0, 0))) ∧ (w.heap.size ≤ s_) ∧ (gb290 ≠ s_) ∧ (s_ ≠ gb290) ∧ (gb291 ≠ s_) ∧ (s_ ≠ gb291) ∧ (gb292 ≠ s_) ∧ (s_ ≠ gb292) ∧ (gb293 ≠ s_) ∧ (s_ ≠ gb293) ∧ (Below w.heap.size w w')) ?_ ?_
       rotate_left
       · intro hJ1_3_4_8
         refine join_ (σ := Nat) 3 #[true, true, true, true, true, true, true, true, false, true, false, false] (fun s_ => [(20, .agg #[.int .u64 t294, .int .u64 t295]), (22, .agg #[.int .u64 t296, .int .u64 t297]), (23, .tuple #[.agg #[.int .u64 t298, .int .u64 t299], .agg #[.int .u64 t300, .int .u64 t301]]), (8, .pointer (some ⟨s_, 0, none⟩)), (18, .tuple #[.agg #[.int .u64 t298, .int .u64 t299], .agg #[.int .u64 t300, .int .u64 t301]]), (24, .agg #[.int .u64 t298, .int .u64 t299]), (25, .agg #[.int .u64 t300, .int .u64 t301])]) (fun s_ w' => (w'.cell? ⟨gb290, 0, none⟩ = some (.int .i64 a0_0) ∧ w'.cell? ⟨gb290, 1, none⟩ = some (.int .u64 a0_1) ∧ w'.cell? ⟨gb291, 0, none⟩ = some (.int .i64 a1_0) ∧ w'.cell? ⟨gb291, 1, none⟩ = some (.int .u64 a1_1)) ∧ (w'.heap[gb290]? = some (.cells #[.int .i64 a0_0, .int .u64 a0_1] 24 (0, 0))) ∧ (w'.heap[gb291]? = some (.cells #[.int .i64 a1_0, .int .u64 a1_1] 24 (0, 0))) ∧ (w'.heap[gb292]? = some (.cells #[.int .i64 0, .int .u64 0] 24 (0, 0))) ∧ (w'.heap[gb293]? = some (.cells #[.int .i64 0, .int .u64 0] 24 (0, 0))) ∧ (w'.heap[s_]? = some (.cells #[.int .u64 0, .int .u64 0] 62 (0, 0))) ∧ (w.heap.size ≤ s_) ∧ (gb290 ≠ s_) ∧ (s_ ≠ gb290) ∧ (gb291 ≠ s_) ∧ (s_ ≠ gb291) ∧ (gb292 ≠ s_) ∧ (s_ ≠ gb292) ∧ (gb293 ≠ s_) ∧ (s_ ≠ gb293) ∧ (Below w.heap.size w w')) ?_ ?_
         rotate_left
         · intro hJ1_3_4_9
           refine join_ (σ := Nat × Nat) 6 #[true, true, true, true, false, false, false, false, true, true, false, false] (fun s_ => [(20, .agg #[.int .u64 t294, .int .u64 t295]), (22, .agg #[.int .u64 t296, .int .u64 t297]), (7, .pointer (some ⟨s_.1, 0, none⟩)), (8, .pointer (some ⟨s_.2, 0, none⟩))]) (fun s_ w' => (w'.cell? ⟨gb290, 0, none⟩ = some (.int .i64 a0_0) ∧ w'.cell? ⟨gb290, 1, none⟩ = some (.int .u64 a0_1) ∧ w'.cell? ⟨gb291, 0, none⟩ = some (.int .i64 a1_0) ∧ w'.cell? ⟨gb291, 1, none⟩ = some (.int .u64 a1_1)) ∧ (w'.heap[gb290]? = some (.cells #[.int .i64 a0_0, .int .u64 a0_1] 24 (0, 0))) ∧ (w'.heap[gb291]? = some (.cells #[.int .i64 a1_0, .int .u64 a1_1] 24 (0, 0))) ∧ (w'.heap[gb292]? = some (.cells #[.int .i64 0, .int .u64 0] 24 (0, 0))) ∧ (w'.heap[gb293]? = some (.cells #[.int .i64 0, .int .u64 0] 24 (0, 0))) ∧ (w'.heap[s_.1]? = some (.cells #[.int .u64 0, .int .u64 0] 62 (0, 0))) ∧ (w'.heap[s_.2]? = some (.cells #[.int .u64 0, .int .u64 0] 62 (0, 0))) ∧ (w.heap.size ≤ s_.1) ∧ (gb290 ≠ s_.1) ∧ (s_.1 ≠ gb290) ∧ (gb291 ≠ s_.1) ∧ (s_.1 ≠ gb291) ∧ (gb292 ≠ s_.1) ∧ (s_.1 ≠ gb292) ∧ (gb293 ≠ s_.1) ∧ (s_.1 ≠ gb293) ∧ (s_.2 ≠ s_.1) ∧ (s_.1 ≠ s_.2) ∧ (w.heap.size ≤ s_.2) ∧ (gb290 ≠ s_.2) ∧ (s_.2 ≠ gb290) ∧ (gb291 ≠ s_.2) ∧ (s_.2 ≠ gb291) ∧ (gb292 ≠ s_.2) ∧ (s_.2 ≠ gb292) ∧ (gb293 ≠ s_.2) ∧ (s_.2 ≠ gb293) ∧ (Below w.heap.size w w')) ?_ ?_
           rotate_left
           · intro hJ1_3_8_9
             refine join_ (σ := Unit) 4 #[true, true, true, true, true, true, true, true, false, false, false, false] (fun s_ => [(20, .agg #[.int .u64 t294, .int .u64 t295]), (22, .agg #[.int .u64 t296, .int .u64 t297]), (23, .tuple #[.agg #[.int .u64 t298, .int .u64 t299], .agg #[.int .u64 t300, .int .u64 t301]]), (18, .tuple #[.agg #[.int .u64 t298, .int .u64 t299], .agg #[.int .u64 t300, .int .u64 t301]]), (24, .agg #[.int .u64 t298, .int .u64 t299]), (25, .agg #[.int .u64 t300, .int .u64 t301])]) (fun s_ w' => (w'.cell? ⟨gb290, 0, none⟩ = some (.int .i64 a0_0) ∧ w'.cell? ⟨gb290, 1, none⟩ = some (.int .u64 a0_1) ∧ w'.cell? ⟨gb291, 0, none⟩ = some (.int .i64 a1_0) ∧ w'.cell? ⟨gb291, 1, none⟩ = some (.int .u64 a1_1)) ∧ (w'.heap[gb290]? = some (.cells #[.int .i64 a0_0, .int .u64 a0_1] 24 (0, 0))) ∧ (w'.heap[gb291]? = some (.cells #[.int .i64 a1_0, .int .u64 a1_1] 24 (0, 0))) ∧ (w'.heap[gb292]? = some (.cells #[.int .i64 0, .int .u64 0] 24 (0, 0))) ∧ (w'.heap[gb293]? = some (.cells #[.int .i64 0, .int .u64 0] 24 (0, 0))) ∧ (Below w.heap.size w w')) ?_ ?_
             rotate_left
             · intro hJ1_3_4
               refine join_ (σ := Nat) 7 #[true, true, true, true, false, false, false, false, true, false, false, false] (fun s_ => [(20, .agg #[.int .u64 t294, .int .u64 t295]), (22, .agg #[.int .u64 t296, .int .u64 t297]), (7, .pointer (some ⟨s_, 0, none⟩))]) (fun s_ w' => (w'.cell? ⟨gb290, 0, none⟩ = some (.int .i64 a0_0) ∧ w'.cell? ⟨gb290, 1, none⟩ = some (.int .u64 a0_1) ∧ w'.cell? ⟨gb291, 0, none⟩ = some (.int .i64 a1_0) ∧ w'.cell? ⟨gb291, 1, none⟩ = some (.int .u64 a1_1)) ∧ (w'.heap[gb290]? = some (.cells #[.int .i64 a0_0, .int .u64 a0_1] 24 (0, 0))) ∧ (w'.heap[gb291]? = some (.cells #[.int .i64 a1_0, .int .u64 a1_1] 24 (0, 0))) ∧ (w'.heap[gb292]? = some (.cells #[.int .i64 0, .int .u64 0] 24 (0, 0))) ∧ (w'.heap[gb293]? = some (.cells #[.int .i64 0, .int .u64 0] 24 (0, 0))) ∧ (w'.heap[s_]? = some (.cells #[.int .u64 0, .int .u64 0] 62 (0, 0))) ∧ (w.heap.size ≤ s_) ∧ (gb290 ≠ s_) ∧ (s_ ≠ gb290) ∧ (gb291 ≠ s_) ∧ (s_ ≠ gb291) ∧ (gb292 ≠ s_) ∧ (s_ ≠ gb292) ∧ (gb293 ≠ s_) ∧ (s_ ≠ gb293) ∧ (Below w.heap.size w w')) ?_ ?_
               rotate_left
               · intro hJ1_3_8
                 refine join_ (σ := Nat) 7 #[true, true, true, true, false, false, false, false, false, true, false, false] (fun s_ => [(20, .agg #[.int .u64 t294, .int .u64 t295]), (22, .agg #[.int .u64 t296, .int .u64 t297]), (8, .pointer (some ⟨s_, 0, none⟩))]) (fun s_ w' => (w'.cell? ⟨gb290, 0, none⟩ = some (.int .i64 a0_0) ∧ w'.cell? ⟨gb290, 1, none⟩ = some (.int .u64 a0_1) ∧ w'.cell? ⟨gb291, 0, none⟩ = some (.int .i64 a1_0) ∧ w'.cell? ⟨gb291, 1, none⟩ = some (.int .u64 a1_1)) ∧ (w'.heap[gb290]? = some (.cells #[.int .i64 a0_0, .int .u64 a0_1] 24 (0, 0))) ∧ (w'.heap[gb291]? = some (.cells #[.int .i64 a1_0, .int .u64 a1_1] 24 (0, 0))) ∧ (w'.heap[gb292]? = some (.cells #[.int .i64 0, .int .u64 0] 24 (0, 0))) ∧ (w'.heap[gb293]? = some (.cells #[.int .i64 0, .int .u64 0] 24 (0, 0))) ∧ (w'.heap[s_]? = some (.cells #[.int .u64 0, .int .u64 0] 62 (0, 0))) ∧ (w.heap.size ≤ s_) ∧ (gb290 ≠ s_) ∧ (s_ ≠ gb290) ∧ (gb291 ≠ s_) ∧ (s_ ≠ gb291) ∧ (gb292 ≠ s_) ∧ (s_ ≠ gb292) ∧ (gb293 ≠ s_) ∧ (s_ ≠ gb293) ∧ (Below w.heap.size w w')) ?_ ?_
                 rotate_left
                 · intro hJ1_3_9
                   refine join_ (σ := Nat × Nat) 7 #[true, true, true, false, false, false, false, false, true, true, false, false] (fun s_ => [(20, .agg #[.int .u64 t294, .int .u64 t295]), (7, .pointer (some ⟨s_.1, 0, none⟩)), (8, .pointer (some ⟨s_.2, 0, none⟩))]) (fun s_ w' => (w'.cell? ⟨gb290, 0, none⟩ = some (.int .i64 a0_0) ∧ w'.cell? ⟨gb290, 1, none⟩ = some (.int .u64 a0_1) ∧ w'.cell? ⟨gb291, 0, none⟩ = some (.int .i64 a1_0) ∧ w'.cell? ⟨gb291, 1, none⟩ = some (.int .u64 a1_1)) ∧ (w'.heap[gb290]? = some (.cells #[.int .i64 a0_0, .int .u64 a0_1] 24 (0, 0))) ∧ (w'.heap[gb291]? = some (.cells #[.int .i64 a1_0, .int .u64 a1_1] 24 (0, 0))) ∧ (w'.heap[gb292]? = some (.cells #[.int .i64 0, .int .u64 0] 24 (0, 0))) ∧ (w'.heap[gb293]? = some (.cells #[.int .i64 0, .int .u64 0] 24 (0, 0))) ∧ (w'.heap[s_.1]? = some (.cells #[.int .u64 0, .int .u64 0] 62 (0, 0))) ∧ (w'.heap[s_.2]? = some (.cells #[.int .u64 0, .int .u64 0] 62 (0, 0))) ∧ (w.heap.size ≤ s_.1) ∧ (gb290 ≠ s_.1) ∧ (s_.1 ≠ gb290) ∧ (gb291 ≠ s_.1) ∧ (s_.1 ≠ gb291) ∧ (gb292 ≠ s_.1) ∧ (s_.1 ≠ gb292) ∧ (gb293 ≠ s_.1) ∧ (s_.1 ≠ gb293) ∧ (s_.2 ≠ s_.1) ∧ (s_.1 ≠ s_.2) ∧ (w.heap.size ≤ s_.2) ∧ (gb290 ≠ s_.2) ∧ (s_.2 ≠ gb290) ∧ (gb291 ≠ s_.2) ∧ (s_.2 ≠ gb291) ∧ (gb292 ≠ s_.2) ∧ (s_.2 ≠ gb292) ∧ (gb293 ≠ s_.2) ∧ (s_.2 ≠ gb293) ∧ (Below w.heap.size w w')) ?_ ?_
                   rotate_left
                   · intro hJ1_8_9
                     refine join_ (σ := Unit) 8 #[true, true, true, true, false, false, false, false, false, false, false, false] (fun s_ => [(20, .agg #[.int .u64 t294, .int .u64 t295]), (22, .agg #[.int .u64 t296, .int .u64 t297])]) (fun s_ w' => (w'.cell? ⟨gb290, 0, none⟩ = some (.int .i64 a0_0) ∧ w'.cell? ⟨gb290, 1, none⟩ = some (.int .u64 a0_1) ∧ w'.cell? ⟨gb291, 0, none⟩ = some (.int .i64 a1_0) ∧ w'.cell? ⟨gb291, 1, none⟩ = some (.int .u64 a1_1)) ∧ (w'.heap[gb290]? = some (.cells #[.int .i64 a0_0, .int .u64 a0_1] 24 (0, 0))) ∧ (w'.heap[gb291]? = some (.cells #[.int .i64 a1_0, .int .u64 a1_1] 24 (0, 0))) ∧ (w'.heap[gb292]? = some (.cells #[.int .i64 0, .int .u64 0] 24 (0, 0))) ∧ (w'.heap[gb293]? = some (.cells #[.int .i64 0, .int .u64 0] 24 (0, 0))) ∧ (Below w.heap.size w w')) ?_ ?_
                     rotate_left
                     · intro hJ1_3
                       refine join_ (σ := Nat) 8 #[true, true, true, false, false, false, false, false, true, false, false, false] (fun s_ => [(20, .agg #[.int .u64 t294, .int .u64 t295]), (7, .pointer (some ⟨s_, 0, none⟩))]) (fun s_ w' => (w'.cell? ⟨gb290, 0, none⟩ = some (.int .i64 a0_0) ∧ w'.cell? ⟨gb290, 1, none⟩ = some (.int .u64 a0_1) ∧ w'.cell? ⟨gb291, 0, none⟩ = some (.int .i64 a1_0) ∧ w'.cell? ⟨gb291, 1, none⟩ = some (.int .u64 a1_1)) ∧ (w'.heap[gb290]? = some (.cells #[.int .i64 a0_0, .int .u64 a0_1] 24 (0, 0))) ∧ (w'.heap[gb291]? = some (.cells #[.int .i64 a1_0, .int .u64 a1_1] 24 (0, 0))) ∧ (w'.heap[gb292]? = some (.cells #[.int .i64 0, .int .u64 0] 24 (0, 0))) ∧ (w'.heap[gb293]? = some (.cells #[.int .i64 0, .int .u64 0] 24 (0, 0))) ∧ (w'.heap[s_]? = some (.cells #[.int .u64 0, .int .u64 0] 62 (0, 0))) ∧ (w.heap.size ≤ s_) ∧ (gb290 ≠ s_) ∧ (s_ ≠ gb290) ∧ (gb291 ≠ s_) ∧ (s_ ≠ gb291) ∧ (gb292 ≠ s_) ∧ (s_ ≠ gb292) ∧ (gb293 ≠ s_) ∧ (s_ ≠ gb293) ∧ (Below w.heap.size w w')) ?_ ?_
                       rotate_left
                       · intro hJ1_8
                         refine join_ (σ := Nat) 8 #[true, true, true, false, false, false, false, false, false, true, false, false] (fun s_ => [(20, .agg #[.int .u64 t294, .int .u64 t295]), (8, .pointer (some ⟨s_, 0, none⟩))]) (fun s_ w' => (w'.cell? ⟨gb290, 0, none⟩ = some (.int .i64 a0_0) ∧ w'.cell? ⟨gb290, 1, none⟩ = some (.int .u64 a0_1) ∧ w'.cell? ⟨gb291, 0, none⟩ = some (.int .i64 a1_0) ∧ w'.cell? ⟨gb291, 1, none⟩ = some (.int .u64 a1_1)) ∧ (w'.heap[gb290]? = some (.cells #[.int .i64 a0_0, .int .u64 a0_1] 24 (0, 0))) ∧ (w'.heap[gb291]? = some (.cells #[.int .i64 a1_0, .int .u64 a1_1] 24 (0, 0))) ∧ (w'.heap[gb292]? = some (.cells #[.int .i64 0, .int .u64 0] 24 (0, 0))) ∧ (w'.heap[gb293]? = some (.cells #[.int .i64 0, .int .u64 0] 24 (0, 0))) ∧ (w'.heap[s_]? = some (.cells #[.int .u64 0, .int .u64 0] 62 (0, 0))) ∧ (w.heap.size ≤ s_) ∧ (gb290 ≠ s_) ∧ (s_ ≠ gb290) ∧ (gb291 ≠ s_) ∧ (s_ ≠ gb291) ∧ (gb292 ≠ s_) ∧ (s_ ≠ gb292) ∧ (gb293 ≠ s_) ∧ (s_ ≠ gb293) ∧ (Below w.heap.size w w')) ?_ ?_
                         rotate_left
                         · intro hJ1_9
                           refine join_ (σ := Nat × Nat) 8 #[true, false, true, false, false, false, false, false, true, true, false, false] (fun s_ => [(7, .pointer (some ⟨s_.1, 0, none⟩)), (8, .pointer (some ⟨s_.2, 0, none⟩))]) (fun s_ w' => (w'.cell? ⟨gb290, 0, none⟩ = some (.int .i64 a0_0) ∧ w'.cell? ⟨gb290, 1, none⟩ = some (.int .u64 a0_1) ∧ w'.cell? ⟨gb291, 0, none⟩ = some (.int .i64 a1_0) ∧ w'.cell? ⟨gb291, 1, none⟩ = some (.int .u64 a1_1)) ∧ (w'.heap[gb290]? = some (.cells #[.int .i64 a0_0, .int .u64 a0_1] 24 (0, 0))) ∧ (w'.heap[gb291]? = some (.cells #[.int .i64 a1_0, .int .u64 a1_1] 24 (0, 0))) ∧ (w'.heap[gb292]? = some (.cells #[.int .i64 0, .int .u64 0] 24 (0, 0))) ∧ (w'.heap[gb293]? = some (.cells #[.int .i64 0, .int .u64 0] 24 (0, 0))) ∧ (w'.heap[s_.1]? = some (.cells #[.int .u64 0, .int .u64 0] 62 (0, 0))) ∧ (w'.heap[s_.2]? = some (.cells #[.int .u64 0, .int .u64 0] 62 (0, 0))) ∧ (w.heap.size ≤ s_.1) ∧ (gb290 ≠ s_.1) ∧ (s_.1 ≠ gb290) ∧ (gb291 ≠ s_.1) ∧ (s_.1 ≠ gb291) ∧ (gb292 ≠ s_.1) ∧ (s_.1 ≠ gb292) ∧ (gb293 ≠ s_.1) ∧ (s_.1 ≠ gb293) ∧ (s_.2 ≠ s_.1) ∧ (s_.1 ≠ s_.2) ∧ (w.heap.size ≤ s_.2) ∧ (gb290 ≠ s_.2) ∧ (s_.2 ≠ gb290) ∧ (gb291 ≠ s_.2) ∧ (s_.2 ≠ gb291) ∧ (gb292 ≠ s_.2) ∧ (s_.2 ≠ gb292) ∧ (gb293 ≠ s_.2) ∧ (s_.2 ≠ gb293) ∧ (Below w.heap.size w w')) ?_ ?_
                           rotate_left
                           · intro hJ8_9
                             refine join_ (σ := Unit) 9 #[true, true, true, false, false, false, false, false, false, false, false, false] (fun s_ => [(20, .agg #[.int .u64 t294, .int .u64 t295])]) (fun s_ w' => (w'.cell? ⟨gb290, 0, none⟩ = some (.int .i64 a0_0) ∧ w'.cell? ⟨gb290, 1, none⟩ = some (.int .u64 a0_1) ∧ w'.cell? ⟨gb291, 0, none⟩ = some (.int .i64 a1_0) ∧ w'.cell? ⟨gb291, 1, none⟩ = some (.int .u64 a1_1)) ∧ (w'.heap[gb290]? = some (.cells #[.int .i64 a0_0, .int .u64 a0_1] 24 (0, 0))) ∧ (w'.heap[gb291]? = some (.cells #[.int .i64 a1_0, .int .u64 a1_1] 24 (0, 0))) ∧ (w'.heap[gb292]? = some (.cells #[.int .i64 0, .int .u64 0] 24 (0, 0))) ∧ (w'.heap[gb293]? = some (.cells #[.int .i64 0, .int .u64 0] 24 (0, 0))) ∧ (Below w.heap.size w w')) ?_ ?_
                             rotate_left
                             · intro hJ1
                               refine join_ (σ := Nat) 9 #[true, false, true, false, false, false, false, false, true, false, false, false] (fun s_ => [(7, .pointer (some ⟨s_, 0, none⟩))]) (fun s_ w' => (w'.cell? ⟨gb290, 0, none⟩ = some (.int .i64 a0_0) ∧ w'.cell? ⟨gb290, 1, none⟩ = some (.int .u64 a0_1) ∧ w'.cell? ⟨gb291, 0, none⟩ = some (.int .i64 a1_0) ∧ w'.cell? ⟨gb291, 1, none⟩ = some (.int .u64 a1_1)) ∧ (w'.heap[gb290]? = some (.cells #[.int .i64 a0_0, .int .u64 a0_1] 24 (0, 0))) ∧ (w'.heap[gb291]? = some (.cells #[.int .i64 a1_0, .int .u64 a1_1] 24 (0, 0))) ∧ (w'.heap[gb292]? = some (.cells #[.int .i64 0, .int .u64 0] 24 (0, 0))) ∧ (w'.heap[gb293]? = some (.cells #[.int .i64 0, .int .u64 0] 24 (0, 0))) ∧ (w'.heap[s_]? = some (.cells #[.int .u64 0, .int .u64 0] 62 (0, 0))) ∧ (w.heap.size ≤ s_) ∧ (gb290 ≠ s_) ∧ (s_ ≠ gb290) ∧ (gb291 ≠ s_) ∧ (s_ ≠ gb291) ∧ (gb292 ≠ s_) ∧ (s_ ≠ gb292) ∧ (gb293 ≠ s_) ∧ (s_ ≠ gb293) ∧ (Below w.heap.size w w')) ?_ ?_
                               rotate_left
                               · intro hJ8
                                 refine join_ (σ := Nat) 9 #[true, false, true, false, false, false, false, false, false, true, false, false] (fun s_ => [(8, .pointer (some ⟨s_, 0, none⟩))]) (fun s_ w' => (w'.cell? ⟨gb290, 0, none⟩ = some (.int .i64 a0_0) ∧ w'.cell? ⟨gb290, 1, none⟩ = some (.int .u64 a0_1) ∧ w'.cell? ⟨gb291, 0, none⟩ = some (.int .i64 a1_0) ∧ w'.cell? ⟨gb291, 1, none⟩ = some (.int .u64 a1_1)) ∧ (w'.heap[gb290]? = some (.cells #[.int .i64 a0_0, .int .u64 a0_1] 24 (0, 0))) ∧ (w'.heap[gb291]? = some (.cells #[.int .i64 a1_0, .int .u64 a1_1] 24 (0, 0))) ∧ (w'.heap[gb292]? = some (.cells #[.int .i64 0, .int .u64 0] 24 (0, 0))) ∧ (w'.heap[gb293]? = some (.cells #[.int .i64 0, .int .u64 0] 24 (0, 0))) ∧ (w'.heap[s_]? = some (.cells #[.int .u64 0, .int .u64 0] 62 (0, 0))) ∧ (w.heap.size ≤ s_) ∧ (gb290 ≠ s_) ∧ (s_ ≠ gb290) ∧ (gb291 ≠ s_) ∧ (s_ ≠ gb291) ∧ (gb292 ≠ s_) ∧ (s_ ≠ gb292) ∧ (gb293 ≠ s_) ∧ (s_ ≠ gb293) ∧ (Below w.heap.size w w')) ?_ ?_
                                 rotate_left
                                 · intro hJ9
                                   refine three_ (i := 1) (j := 8) (k := 9) (Ni := some 20) (Nj := some 7) (Nk := some 8) #[true, true, true, false, false, false, false, false, false, false, false, false] #[true, false, true, false, false, false, false, false, true, false, false, false] #[true, false, true, false, false, false, false, false, false, true, false, false] rfl rfl rfl rfl rfl rfl (three_of HT_.out (by kernel_rfl)) (by decide) (by decide) (by decide) (fun K hK => ?_) (fun K hK => ?_) (fun K hK => ?_)
                                   · skip
                                     refine goes_ Tryd.func64 (by kernel_rfl) rfl #[.agg #[.int .i64 a0_0, .int .u64 a0_1]] (by rfl) rfl rfl rf ?_
                                     with_reducible refine (wide_amount.calls a0_0 a0_1 t294 t295 _ A17.out).mono ?_
                                     rintro e w92 ⟨rfl, hb⟩; refine ⟨_, rfl, ?_⟩; replace BK290 := am (bb BK290 hb); replace BK291 := am (bb BK291 hb); replace BK292 := am (bb BK292 hb); replace BK293 := am (bb BK293 hb); replace HB := am (below_step bz hb); (try clear hb); (try clear hb2); (try clear hk); (try clear hi)
                                     refine hK.out _ _ ⟨bc BK290 0, bc BK290 1, bc BK291 0, bc BK291 1⟩ (fun hHeld => ?_)
                                     clear hK K
                                     refine norm_ (a' := ?_) ?_ ?_
                                     rotate_left
                                     · show Act.put _ (some 20) _ = _
                                       simp only [Act.put, List.setIfInBounds_toArray, List.set_cons_zero, List.set_cons_succ, i64_w, i32_w]
                                       rfl
                                     exact nm (hJ1 () _ ⟨hHeld, (bq BK290), (bq BK291), (bq BK292), (bq BK293), bz⟩)
                                   · skip
                                     refine box_step (by rfl) (N := 7) (by rfl) (cs := #[.int .u64 0, .int .u64 0]) (t := 62) (by go_simp <;> rfl) ?_
                                     intro gb302 hg w92 hbox hb; have BK302 := am (hbox); have GW302 := gw w hg; replace HB := am (below_step bz hb); have NB290_302 := nl BK290 hg; have NB302_290 := nr BK290 hg; replace BK290 := am (bb BK290 hb); have NB291_302 := nl BK291 hg; have NB302_291 := nr BK291 hg; replace BK291 := am (bb BK291 hb); have NB292_302 := nl BK292 hg; have NB302_292 := nr BK292 hg; replace BK292 := am (bb BK292 hb); have NB293_302 := nl BK293 hg; have NB302_293 := nr BK293 hg; replace BK293 := am (bb BK293 hb); clear hb hbox hg
                                     refine hK.out _ _ ⟨bc BK290 0, bc BK290 1, bc BK291 0, bc BK291 1⟩ (fun hHeld => ?_)
                                     clear hK K
                                     refine norm_ (a' := ?_) ?_ ?_
                                     rotate_left
                                     · show Act.put _ (some 7) _ = _
                                       simp only [Act.put, List.setIfInBounds_toArray, List.set_cons_zero, List.set_cons_succ, i64_w, i32_w]
                                       rfl
                                     exact nm (hJ8 (gb302) _ ⟨hHeld, (bq BK290), (bq BK291), (bq BK292), (bq BK293), (bq BK302), GW302.out, NB290_302.out, NB302_290.out, NB291_302.out, NB302_291.out, NB292_302.out, NB302_292.out, NB293_302.out, NB302_293.out, bz⟩)
                                   · skip
                                     refine box_step (by rfl) (N := 8) (by rfl) (cs := #[.int .u64 0, .int .u64 0]) (t := 62) (by go_simp <;> rfl) ?_
                                     intro gb303 hg w92 hbox hb; have BK303 := am (hbox); have GW303 := gw w hg; replace HB := am (below_step bz hb); have NB290_303 := nl BK290 hg; have NB303_290 := nr BK290 hg; replace BK290 := am (bb BK290 hb); have NB291_303 := nl BK291 hg; have NB303_291 := nr BK291 hg; replace BK291 := am (bb BK291 hb); have NB292_303 := nl BK292 hg; have NB303_292 := nr BK292 hg; replace BK292 := am (bb BK292 hb); have NB293_303 := nl BK293 hg; have NB303_293 := nr BK293 hg; replace BK293 := am (bb BK293 hb); clear hb hbox hg
                                     refine hK.out _ _ ⟨bc BK290 0, bc BK290 1, bc BK291 0, bc BK291 1⟩ (fun hHeld => ?_)
                                     clear hK K
                                     refine norm_ (a' := ?_) ?_ ?_
                                     rotate_left
                                     · show Act.put _ (some 8) _ = _
                                       simp only [Act.put, List.setIfInBounds_toArray, List.set_cons_zero, List.set_cons_succ, i64_w, i32_w]
                                       rfl
                                     exact nm (hJ9 (gb303) _ ⟨hHeld, (bq BK290), (bq BK291), (bq BK292), (bq BK293), (bq BK303), GW303.out, NB290_303.out, NB303_290.out, NB291_303.out, NB303_291.out, NB292_303.out, NB303_292.out, NB293_303.out, NB303_293.out, bz⟩)
                                 · skip
                                   rintro gb303 w93 h_; obtain ⟨hS_, h0_, h1_, h2_, h3_, h4_, h5_, h7_, h8_, h9_, h10_, h11_, h12_, h13_, h14_, h15_⟩ := h_; replace BK290 := am h0_; replace BK291 := am h1_; replace BK292 := am h2_; replace BK293 := am h3_; have BK303 := am h4_; have GW303 := am h5_; have NB290_303 := am h7_; have NB303_290 := am h8_; have NB291_303 := am h9_; have NB303_291 := am h10_; have NB292_303 := am h11_; have NB303_292 := am h12_; have NB293_303 := am h13_; have NB303_293 := am h14_; replace HB := am h15_; clear h0_ h1_ h2_ h3_ h4_ h5_ h7_ h8_ h9_ h10_ h11_ h12_ h13_ h14_ h15_; have hHeld : w93.cell? ⟨gb290, 0, none⟩ = some (.int .i64 a0_0) ∧ w93.cell? ⟨gb290, 1, none⟩ = some (.int .u64 a0_1) ∧ w93.cell? ⟨gb291, 0, none⟩ = some (.int .i64 a1_0) ∧ w93.cell? ⟨gb291, 1, none⟩ = some (.int .u64 a1_1) := hS_
                                   refine norm_ (a' := ?_) ?_ ?_
                                   rotate_left
                                   · simp only [putAll, Act.put, List.setIfInBounds_toArray, List.set_cons_zero, List.set_cons_succ]
                                     rfl
                                   refine two_ (i := 1) (j := 8) (Ni := some 20) (Nj := some 7) #[true, true, true, false, false, false, false, false, false, true, false, false] #[true, false, true, false, false, false, false, false, true, true, false, false] rfl rfl rfl rfl (two_of HT_.out (by kernel_rfl)) (by decide) (by decide) (fun K hK => ?_) (fun K hK => ?_)
                                   · skip
                                     refine goes_ Tryd.func64 (by kernel_rfl) rfl #[.agg #[.int .i64 a0_0, .int .u64 a0_1]] (by rfl) rfl rfl rf ?_
                                     with_reducible refine (wide_amount.calls a0_0 a0_1 t294 t295 _ A17.out).mono ?_
                                     rintro e w94 ⟨rfl, hb⟩; refine ⟨_, rfl, ?_⟩; replace BK290 := am (bb BK290 hb); replace BK291 := am (bb BK291 hb); replace BK292 := am (bb BK292 hb); replace BK293 := am (bb BK293 hb); replace BK303 := am (bb BK303 hb); replace HB := am (below_step bz hb); (try clear hb); (try clear hb2); (try clear hk); (try clear hi)
                                     refine hK.out _ _ ⟨bc BK290 0, bc BK290 1, bc BK291 0, bc BK291 1⟩ (fun hHeld => ?_)
                                     clear hK K
                                     refine norm_ (a' := ?_) ?_ ?_
                                     rotate_left
                                     · show Act.put _ (some 20) _ = _
                                       simp only [Act.put, List.setIfInBounds_toArray, List.set_cons_zero, List.set_cons_succ, i64_w, i32_w]
                                       rfl
                                     exact nm (hJ1_9 (gb303) _ ⟨hHeld, (bq BK290), (bq BK291), (bq BK292), (bq BK293), (bq BK303), GW303.out, NB290_303.out, NB303_290.out, NB291_303.out, NB303_291.out, NB292_303.out, NB303_292.out, NB293_303.out, NB303_293.out, bz⟩)
                                   · skip
                                     refine box_step (by rfl) (N := 7) (by rfl) (cs := #[.int .u64 0, .int .u64 0]) (t := 62) (by go_simp <;> rfl) ?_
                                     intro gb302 hg w94 hbox hb; have BK302 := am (hbox); have GW302 := gw w hg; replace HB := am (below_step bz hb); have NB290_302 := nl BK290 hg; have NB302_290 := nr BK290 hg; replace BK290 := am (bb BK290 hb); have NB291_302 := nl BK291 hg; have NB302_291 := nr BK291 hg; replace BK291 := am (bb BK291 hb); have NB292_302 := nl BK292 hg; have NB302_292 := nr BK292 hg; replace BK292 := am (bb BK292 hb); have NB293_302 := nl BK293 hg; have NB302_293 := nr BK293 hg; replace BK293 := am (bb BK293 hb); have NB303_302 := nl BK303 hg; have NB302_303 := nr BK303 hg; replace BK303 := am (bb BK303 hb); clear hb hbox hg
                                     refine hK.out _ _ ⟨bc BK290 0, bc BK290 1, bc BK291 0, bc BK291 1⟩ (fun hHeld => ?_)
                                     clear hK K
                                     refine norm_ (a' := ?_) ?_ ?_
                                     rotate_left
                                     · show Act.put _ (some 7) _ = _
                                       simp only [Act.put, List.setIfInBounds_toArray, List.set_cons_zero, List.set_cons_succ, i64_w, i32_w]
                                       rfl
                                     exact nm (hJ8_9 (gb302, gb303) _ ⟨hHeld, (bq BK290), (bq BK291), (bq BK292), (bq BK293), (bq BK302), (bq BK303), GW302.out, NB290_302.out, NB302_290.out, NB291_302.out, NB302_291.out, NB292_302.out, NB302_292.out, NB293_302.out, NB302_293.out, NB303_302.out, NB302_303.out, GW303.out, NB290_303.out, NB303_290.out, NB291_303.out, NB303_291.out, NB292_303.out, NB303_292.out, NB293_303.out, NB303_293.out, bz⟩)
                               · skip
                                 rintro gb302 w93 h_; obtain ⟨hS_, h0_, h1_, h2_, h3_, h4_, h5_, h7_, h8_, h9_, h10_, h11_, h12_, h13_, h14_, h15_⟩ := h_; replace BK290 := am h0_; replace BK291 := am h1_; replace BK292 := am h2_; replace BK293 := am h3_; have BK302 := am h4_; have GW302 := am h5_; have NB290_302 := am h7_; have NB302_290 := am h8_; have NB291_302 := am h9_; have NB302_291 := am h10_; have NB292_302 := am h11_; have NB302_292 := am h12_; have NB293_302 := am h13_; have NB302_293 := am h14_; replace HB := am h15_; clear h0_ h1_ h2_ h3_ h4_ h5_ h7_ h8_ h9_ h10_ h11_ h12_ h13_ h14_ h15_; have hHeld : w93.cell? ⟨gb290, 0, none⟩ = some (.int .i64 a0_0) ∧ w93.cell? ⟨gb290, 1, none⟩ = some (.int .u64 a0_1) ∧ w93.cell? ⟨gb291, 0, none⟩ = some (.int .i64 a1_0) ∧ w93.cell? ⟨gb291, 1, none⟩ = some (.int .u64 a1_1) := hS_
                                 refine norm_ (a' := ?_) ?_ ?_
                                 rotate_left
                                 · simp only [putAll, Act.put, List.setIfInBounds_toArray, List.set_cons_zero, List.set_cons_succ]
                                   rfl
                                 refine two_ (i := 1) (j := 9) (Ni := some 20) (Nj := some 8) #[true, true, true, false, false, false, false, false, true, false, false, false] #[true, false, true, false, false, false, false, false, true, true, false, false] rfl rfl rfl rfl (two_of HT_.out (by kernel_rfl)) (by decide) (by decide) (fun K hK => ?_) (fun K hK => ?_)
                                 · skip
                                   refine goes_ Tryd.func64 (by kernel_rfl) rfl #[.agg #[.int .i64 a0_0, .int .u64 a0_1]] (by rfl) rfl rfl rf ?_
                                   with_reducible refine (wide_amount.calls a0_0 a0_1 t294 t295 _ A17.out).mono ?_
                                   rintro e w94 ⟨rfl, hb⟩; refine ⟨_, rfl, ?_⟩; replace BK290 := am (bb BK290 hb); replace BK291 := am (bb BK291 hb); replace BK292 := am (bb BK292 hb); replace BK293 := am (bb BK293 hb); replace BK302 := am (bb BK302 hb); replace HB := am (below_step bz hb); (try clear hb); (try clear hb2); (try clear hk); (try clear hi)
                                   refine hK.out _ _ ⟨bc BK290 0, bc BK290 1, bc BK291 0, bc BK291 1⟩ (fun hHeld => ?_)
                                   clear hK K
                                   refine norm_ (a' := ?_) ?_ ?_
                                   rotate_left
                                   · show Act.put _ (some 20) _ = _
                                     simp only [Act.put, List.setIfInBounds_toArray, List.set_cons_zero, List.set_cons_succ, i64_w, i32_w]
                                     rfl
                                   exact nm (hJ1_8 (gb302) _ ⟨hHeld, (bq BK290), (bq BK291), (bq BK292), (bq BK293), (bq BK302), GW302.out, NB290_302.out, NB302_290.out, NB291_302.out, NB302_291.out, NB292_302.out, NB302_292.out, NB293_302.out, NB302_293.out, bz⟩)
                                 · skip
                                   refine box_step (by rfl) (N := 8) (by rfl) (cs := #[.int .u64 0, .int .u64 0]) (t := 62) (by go_simp <;> rfl) ?_
                                   intro gb303 hg w94 hbox hb; have BK303 := am (hbox); have GW303 := gw w hg; replace HB := am (below_step bz hb); have NB290_303 := nl BK290 hg; have NB303_290 := nr BK290 hg; replace BK290 := am (bb BK290 hb); have NB291_303 := nl BK291 hg; have NB303_291 := nr BK291 hg; replace BK291 := am (bb BK291 hb); have NB292_303 := nl BK292 hg; have NB303_292 := nr BK292 hg; replace BK292 := am (bb BK292 hb); have NB293_303 := nl BK293 hg; have NB303_293 := nr BK293 hg; replace BK293 := am (bb BK293 hb); have NB302_303 := nl BK302 hg; have NB303_302 := nr BK302 hg; replace BK302 := am (bb BK302 hb); clear hb hbox hg
                                   refine hK.out _ _ ⟨bc BK290 0, bc BK290 1, bc BK291 0, bc BK291 1⟩ (fun hHeld => ?_)
                                   clear hK K
                                   refine norm_ (a' := ?_) ?_ ?_
                                   rotate_left
                                   · show Act.put _ (some 8) _ = _
                                     simp only [Act.put, List.setIfInBounds_toArray, List.set_cons_zero, List.set_cons_succ, i64_w, i32_w]
                                     rfl
                                   exact nm (hJ8_9 (gb302, gb303) _ ⟨hHeld, (bq BK290), (bq BK291), (bq BK292), (bq BK293), (bq BK302), (bq BK303), GW302.out, NB290_302.out, NB302_290.out, NB291_302.out, NB302_291.out, NB292_302.out, NB302_292.out, NB293_302.out, NB302_293.out, NB303_302.out, NB302_303.out, GW303.out, NB290_303.out, NB303_290.out, NB291_303.out, NB303_291.out, NB292_303.out, NB303_292.out, NB293_303.out, NB303_293.out, bz⟩)
                             · skip
                               rintro _ w93 h_; obtain ⟨hS_, h0_, h1_, h2_, h3_, h4_⟩ := h_; replace BK290 := am h0_; replace BK291 := am h1_; replace BK292 := am h2_; replace BK293 := am h3_; replace HB := am h4_; clear h0_ h1_ h2_ h3_ h4_; have hHeld : w93.cell? ⟨gb290, 0, none⟩ = some (.int .i64 a0_0) ∧ w93.cell? ⟨gb290, 1, none⟩ = some (.int .u64 a0_1) ∧ w93.cell? ⟨gb291, 0, none⟩ = some (.int .i64 a1_0) ∧ w93.cell? ⟨gb291, 1, none⟩ = some (.int .u64 a1_1) := hS_
                               refine norm_ (a' := ?_) ?_ ?_
                               rotate_left
                               · simp only [putAll, Act.put, List.setIfInBounds_toArray, List.set_cons_zero, List.set_cons_succ]
                                 rfl
                               refine three_ (i := 3) (j := 8) (k := 9) (Ni := some 22) (Nj := some 7) (Nk := some 8) #[true, true, true, true, false, false, false, false, false, false, false, false] #[true, true, true, false, false, false, false, false, true, false, false, false] #[true, true, true, false, false, false, false, false, false, true, false, false] rfl rfl rfl rfl rfl rfl (three_of HT_.out (by kernel_rfl)) (by decide) (by decide) (by decide) (fun K hK => ?_) (fun K hK => ?_) (fun K hK => ?_)
                               · skip
                                 refine goes_ Tryd.func64 (by kernel_rfl) rfl #[.agg #[.int .i64 a1_0, .int .u64 a1_1]] (by rfl) rfl rfl rf ?_
                                 with_reducible refine (wide_amount.calls a1_0 a1_1 t296 t297 _ A18.out).mono ?_
                                 rintro e w94 ⟨rfl, hb⟩; refine ⟨_, rfl, ?_⟩; replace BK290 := am (bb BK290 hb); replace BK291 := am (bb BK291 hb); replace BK292 := am (bb BK292 hb); replace BK293 := am (bb BK293 hb); replace HB := am (below_step bz hb); (try clear hb); (try clear hb2); (try clear hk); (try clear hi)
                                 refine hK.out _ _ ⟨bc BK290 0, bc BK290 1, bc BK291 0, bc BK291 1⟩ (fun hHeld => ?_)
                                 clear hK K
                                 refine norm_ (a' := ?_) ?_ ?_
                                 rotate_left
                                 · show Act.put _ (some 22) _ = _
                                   simp only [Act.put, List.setIfInBounds_toArray, List.set_cons_zero, List.set_cons_succ, i64_w, i32_w]
                                   rfl
                                 exact nm (hJ1_3 () _ ⟨hHeld, (bq BK290), (bq BK291), (bq BK292), (bq BK293), bz⟩)
                               · skip
                                 refine box_step (by rfl) (N := 7) (by rfl) (cs := #[.int .u64 0, .int .u64 0]) (t := 62) (by go_simp <;> rfl) ?_
                                 intro gb302 hg w94 hbox hb; have BK302 := am (hbox); have GW302 := gw w hg; replace HB := am (below_step bz hb); have NB290_302 := nl BK290 hg; have NB302_290 := nr BK290 hg; replace BK290 := am (bb BK290 hb); have NB291_302 := nl BK291 hg; have NB302_291 := nr BK291 hg; replace BK291 := am (bb BK291 hb); have NB292_302 := nl BK292 hg; have NB302_292 := nr BK292 hg; replace BK292 := am (bb BK292 hb); have NB293_302 := nl BK293 hg; have NB302_293 := nr BK293 hg; replace BK293 := am (bb BK293 hb); clear hb hbox hg
                                 refine hK.out _ _ ⟨bc BK290 0, bc BK290 1, bc BK291 0, bc BK291 1⟩ (fun hHeld => ?_)
                                 clear hK K
                                 refine norm_ (a' := ?_) ?_ ?_
                                 rotate_left
                                 · show Act.put _ (some 7) _ = _
                                   simp only [Act.put, List.setIfInBounds_toArray, List.set_cons_zero, List.set_cons_succ, i64_w, i32_w]
                                   rfl
                                 exact nm (hJ1_8 (gb302) _ ⟨hHeld, (bq BK290), (bq BK291), (bq BK292), (bq BK293), (bq BK302), GW302.out, NB290_302.out, NB302_290.out, NB291_302.out, NB302_291.out, NB292_302.out, NB302_292.out, NB293_302.out, NB302_293.out, bz⟩)
                               · skip
                                 refine box_step (by rfl) (N := 8) (by rfl) (cs := #[.int .u64 0, .int .u64 0]) (t := 62) (by go_simp <;> rfl) ?_
                                 intro gb303 hg w94 hbox hb; have BK303 := am (hbox); have GW303 := gw w hg; replace HB := am (below_step bz hb); have NB290_303 := nl BK290 hg; have NB303_290 := nr BK290 hg; replace BK290 := am (bb BK290 hb); have NB291_303 := nl BK291 hg; have NB303_291 := nr BK291 hg; replace BK291 := am (bb BK291 hb); have NB292_303 := nl BK292 hg; have NB303_292 := nr BK292 hg; replace BK292 := am (bb BK292 hb); have NB293_303 := nl BK293 hg; have NB303_293 := nr BK293 hg; replace BK293 := am (bb BK293 hb); clear hb hbox hg
                                 refine hK.out _ _ ⟨bc BK290 0, bc BK290 1, bc BK291 0, bc BK291 1⟩ (fun hHeld => ?_)
                                 clear hK K
                                 refine norm_ (a' := ?_) ?_ ?_
                                 rotate_left
                                 · show Act.put _ (some 8) _ = _
                                   simp only [Act.put, List.setIfInBounds_toArray, List.set_cons_zero, List.set_cons_succ, i64_w, i32_w]
                                   rfl
                                 exact nm (hJ1_9 (gb303) _ ⟨hHeld, (bq BK290), (bq BK291), (bq BK292), (bq BK293), (bq BK303), GW303.out, NB290_303.out, NB303_290.out, NB291_303.out, NB303_291.out, NB292_303.out, NB303_292.out, NB293_303.out, NB303_293.out, bz⟩)
                           · skip
                             rintro ⟨gb302, gb303⟩ w94 h_; dsimp only at h_; obtain ⟨hS_, h0_, h1_, h2_, h3_, h4_, h5_, h6_, h8_, h9_, h10_, h11_, h12_, h13_, h14_, h15_, h16_, h17_, h18_, h20_, h21_, h22_, h23_, h24_, h25_, h26_, h27_, h28_⟩ := h_; replace BK290 := am h0_; replace BK291 := am h1_; replace BK292 := am h2_; replace BK293 := am h3_; have BK302 := am h4_; have BK303 := am h5_; have GW302 := am h6_; have NB290_302 := am h8_; have NB302_290 := am h9_; have NB291_302 := am h10_; have NB302_291 := am h11_; have NB292_302 := am h12_; have NB302_292 := am h13_; have NB293_302 := am h14_; have NB302_293 := am h15_; have NB303_302 := am h16_; have NB302_303 := am h17_; have GW303 := am h18_; have NB290_303 := am h20_; have NB303_290 := am h21_; have NB291_303 := am h22_; have NB303_291 := am h23_; have NB292_303 := am h24_; have NB303_292 := am h25_; have NB293_303 := am h26_; have NB303_293 := am h27_; replace HB := am h28_; clear h0_ h1_ h2_ h3_ h4_ h5_ h6_ h8_ h9_ h10_ h11_ h12_ h13_ h14_ h15_ h16_ h17_ h18_ h20_ h21_ h22_ h23_ h24_ h25_ h26_ h27_ h28_; have hHeld : w94.cell? ⟨gb290, 0, none⟩ = some (.int .i64 a0_0) ∧ w94.cell? ⟨gb290, 1, none⟩ = some (.int .u64 a0_1) ∧ w94.cell? ⟨gb291, 0, none⟩ = some (.int .i64 a1_0) ∧ w94.cell? ⟨gb291, 1, none⟩ = some (.int .u64 a1_1) := hS_
                             refine norm_ (a' := ?_) ?_ ?_
                             rotate_left
                             · simp only [putAll, Act.put, List.setIfInBounds_toArray, List.set_cons_zero, List.set_cons_succ]
                               rfl
                             refine one_ (i := 1) (N := some 20) #[true, true, true, false, false, false, false, false, true, true, false, false] rfl rfl (one_of HT_.out (by kernel_rfl)) (by decide) (fun K hK => ?_)
                             refine goes_ Tryd.func64 (by kernel_rfl) rfl #[.agg #[.int .i64 a0_0, .int .u64 a0_1]] (by rfl) rfl rfl rf ?_
                             with_reducible refine (wide_amount.calls a0_0 a0_1 t294 t295 _ A17.out).mono ?_
                             rintro e w95 ⟨rfl, hb⟩; refine ⟨_, rfl, ?_⟩; replace BK290 := am (bb BK290 hb); replace BK291 := am (bb BK291 hb); replace BK292 := am (bb BK292 hb); replace BK293 := am (bb BK293 hb); replace BK302 := am (bb BK302 hb); replace BK303 := am (bb BK303 hb); replace HB := am (below_step bz hb); (try clear hb); (try clear hb2); (try clear hk); (try clear hi)
                             refine hK.out _ _ ⟨bc BK290 0, bc BK290 1, bc BK291 0, bc BK291 1⟩ (fun hHeld => ?_)
                             clear hK K
                             refine norm_ (a' := ?_) ?_ ?_
                             rotate_left
                             · show Act.put _ (some 20) _ = _
                               simp only [Act.put, List.setIfInBounds_toArray, List.set_cons_zero, List.set_cons_succ, i64_w, i32_w]
                               rfl
                             exact nm (hJ1_8_9 (gb302, gb303) _ ⟨hHeld, (bq BK290), (bq BK291), (bq BK292), (bq BK293), (bq BK302), (bq BK303), GW302.out, NB290_302.out, NB302_290.out, NB291_302.out, NB302_291.out, NB292_302.out, NB302_292.out, NB293_302.out, NB302_293.out, NB303_302.out, NB302_303.out, GW303.out, NB290_303.out, NB303_290.out, NB291_303.out, NB303_291.out, NB292_303.out, NB303_292.out, NB293_303.out, NB303_293.out, bz⟩)
                         · skip
                           rintro gb303 w94 h_; obtain ⟨hS_, h0_, h1_, h2_, h3_, h4_, h5_, h7_, h8_, h9_, h10_, h11_, h12_, h13_, h14_, h15_⟩ := h_; replace BK290 := am h0_; replace BK291 := am h1_; replace BK292 := am h2_; replace BK293 := am h3_; have BK303 := am h4_; have GW303 := am h5_; have NB290_303 := am h7_; have NB303_290 := am h8_; have NB291_303 := am h9_; have NB303_291 := am h10_; have NB292_303 := am h11_; have NB303_292 := am h12_; have NB293_303 := am h13_; have NB303_293 := am h14_; replace HB := am h15_; clear h0_ h1_ h2_ h3_ h4_ h5_ h7_ h8_ h9_ h10_ h11_ h12_ h13_ h14_ h15_; have hHeld : w94.cell? ⟨gb290, 0, none⟩ = some (.int .i64 a0_0) ∧ w94.cell? ⟨gb290, 1, none⟩ = some (.int .u64 a0_1) ∧ w94.cell? ⟨gb291, 0, none⟩ = some (.int .i64 a1_0) ∧ w94.cell? ⟨gb291, 1, none⟩ = some (.int .u64 a1_1) := hS_
                           refine norm_ (a' := ?_) ?_ ?_
                           rotate_left
                           · simp only [putAll, Act.put, List.setIfInBounds_toArray, List.set_cons_zero, List.set_cons_succ]
                             rfl
                           refine two_ (i := 3) (j := 8) (Ni := some 22) (Nj := some 7) #[true, true, true, true, false, false, false, false, false, true, false, false] #[true, true, true, false, false, false, false, false, true, true, false, false] rfl rfl rfl rfl (two_of HT_.out (by kernel_rfl)) (by decide) (by decide) (fun K hK => ?_) (fun K hK => ?_)
                           · skip
                             refine goes_ Tryd.func64 (by kernel_rfl) rfl #[.agg #[.int .i64 a1_0, .int .u64 a1_1]] (by rfl) rfl rfl rf ?_
                             with_reducible refine (wide_amount.calls a1_0 a1_1 t296 t297 _ A18.out).mono ?_
                             rintro e w95 ⟨rfl, hb⟩; refine ⟨_, rfl, ?_⟩; replace BK290 := am (bb BK290 hb); replace BK291 := am (bb BK291 hb); replace BK292 := am (bb BK292 hb); replace BK293 := am (bb BK293 hb); replace BK303 := am (bb BK303 hb); replace HB := am (below_step bz hb); (try clear hb); (try clear hb2); (try clear hk); (try clear hi)
                             refine hK.out _ _ ⟨bc BK290 0, bc BK290 1, bc BK291 0, bc BK291 1⟩ (fun hHeld => ?_)
                             clear hK K
                             refine norm_ (a' := ?_) ?_ ?_
                             rotate_left
                             · show Act.put _ (some 22) _ = _
                               simp only [Act.put, List.setIfInBounds_toArray, List.set_cons_zero, List.set_cons_succ, i64_w, i32_w]
                               rfl
                             exact nm (hJ1_3_9 (gb303) _ ⟨hHeld, (bq BK290), (bq BK291), (bq BK292), (bq BK293), (bq BK303), GW303.out, NB290_303.out, NB303_290.out, NB291_303.out, NB303_291.out, NB292_303.out, NB303_292.out, NB293_303.out, NB303_293.out, bz⟩)
                           · skip
                             refine box_step (by rfl) (N := 7) (by rfl) (cs := #[.int .u64 0, .int .u64 0]) (t := 62) (by go_simp <;> rfl) ?_
                             intro gb302 hg w95 hbox hb; have BK302 := am (hbox); have GW302 := gw w hg; replace HB := am (below_step bz hb); have NB290_302 := nl BK290 hg; have NB302_290 := nr BK290 hg; replace BK290 := am (bb BK290 hb); have NB291_302 := nl BK291 hg; have NB302_291 := nr BK291 hg; replace BK291 := am (bb BK291 hb); have NB292_302 := nl BK292 hg; have NB302_292 := nr BK292 hg; replace BK292 := am (bb BK292 hb); have NB293_302 := nl BK293 hg; have NB302_293 := nr BK293 hg; replace BK293 := am (bb BK293 hb); have NB303_302 := nl BK303 hg; have NB302_303 := nr BK303 hg; replace BK303 := am (bb BK303 hb); clear hb hbox hg
                             refine hK.out _ _ ⟨bc BK290 0, bc BK290 1, bc BK291 0, bc BK291 1⟩ (fun hHeld => ?_)
                             clear hK K
                             refine norm_ (a' := ?_) ?_ ?_
                             rotate_left
                             · show Act.put _ (some 7) _ = _
                               simp only [Act.put, List.setIfInBounds_toArray, List.set_cons_zero, List.set_cons_succ, i64_w, i32_w]
                               rfl
                             exact nm (hJ1_8_9 (gb302, gb303) _ ⟨hHeld, (bq BK290), (bq BK291), (bq BK292), (bq BK293), (bq BK302), (bq BK303), GW302.out, NB290_302.out, NB302_290.out, NB291_302.out, NB302_291.out, NB292_302.out, NB302_292.out, NB293_302.out, NB302_293.out, NB303_302.out, NB302_303.out, GW303.out, NB290_303.out, NB303_290.out, NB291_303.out, NB303_291.out, NB292_303.out, NB303_292.out, NB293_303.out, NB303_293.out, bz⟩)
                       · skip
                         rintro gb302 w94 h_; obtain ⟨hS_, h0_, h1_, h2_, h3_, h4_, h5_, h7_, h8_, h9_, h10_, h11_, h12_, h13_, h14_, h15_⟩ := h_; replace BK290 := am h0_; replace BK291 := am h1_; replace BK292 := am h2_; replace BK293 := am h3_; have BK302 := am h4_; have GW302 := am h5_; have NB290_302 := am h7_; have NB302_290 := am h8_; have NB291_302 := am h9_; have NB302_291 := am h10_; have NB292_302 := am h11_; have NB302_292 := am h12_; have NB293_302 := am h13_; have NB302_293 := am h14_; replace HB := am h15_; clear h0_ h1_ h2_ h3_ h4_ h5_ h7_ h8_ h9_ h10_ h11_ h12_ h13_ h14_ h15_; have hHeld : w94.cell? ⟨gb290, 0, none⟩ = some (.int .i64 a0_0) ∧ w94.cell? ⟨gb290, 1, none⟩ = some (.int .u64 a0_1) ∧ w94.cell? ⟨gb291, 0, none⟩ = some (.int .i64 a1_0) ∧ w94.cell? ⟨gb291, 1, none⟩ = some (.int .u64 a1_1) := hS_
                         refine norm_ (a' := ?_) ?_ ?_
                         rotate_left
                         · simp only [putAll, Act.put, List.setIfInBounds_toArray, List.set_cons_zero, List.set_cons_succ]
                           rfl
                         refine two_ (i := 3) (j := 9) (Ni := some 22) (Nj := some 8) #[true, true, true, true, false, false, false, false, true, false, false, false] #[true, true, true, false, false, false, false, false, true, true, false, false] rfl rfl rfl rfl (two_of HT_.out (by kernel_rfl)) (by decide) (by decide) (fun K hK => ?_) (fun K hK => ?_)
                         · skip
                           refine goes_ Tryd.func64 (by kernel_rfl) rfl #[.agg #[.int .i64 a1_0, .int .u64 a1_1]] (by rfl) rfl rfl rf ?_
                           with_reducible refine (wide_amount.calls a1_0 a1_1 t296 t297 _ A18.out).mono ?_
                           rintro e w95 ⟨rfl, hb⟩; refine ⟨_, rfl, ?_⟩; replace BK290 := am (bb BK290 hb); replace BK291 := am (bb BK291 hb); replace BK292 := am (bb BK292 hb); replace BK293 := am (bb BK293 hb); replace BK302 := am (bb BK302 hb); replace HB := am (below_step bz hb); (try clear hb); (try clear hb2); (try clear hk); (try clear hi)
                           refine hK.out _ _ ⟨bc BK290 0, bc BK290 1, bc BK291 0, bc BK291 1⟩ (fun hHeld => ?_)
                           clear hK K
                           refine norm_ (a' := ?_) ?_ ?_
                           rotate_left
                           · show Act.put _ (some 22) _ = _
                             simp only [Act.put, List.setIfInBounds_toArray, List.set_cons_zero, List.set_cons_succ, i64_w, i32_w]
                             rfl
                           exact nm (hJ1_3_8 (gb302) _ ⟨hHeld, (bq BK290), (bq BK291), (bq BK292), (bq BK293), (bq BK302), GW302.out, NB290_302.out, NB302_290.out, NB291_302.out, NB302_291.out, NB292_302.out, NB302_292.out, NB293_302.out, NB302_293.out, bz⟩)
                         · skip
                           refine box_step (by rfl) (N := 8) (by rfl) (cs := #[.int .u64 0, .int .u64 0]) (t := 62) (by go_simp <;> rfl) ?_
                           intro gb303 hg w95 hbox hb; have BK303 := am (hbox); have GW303 := gw w hg; replace HB := am (below_step bz hb); have NB290_303 := nl BK290 hg; have NB303_290 := nr BK290 hg; replace BK290 := am (bb BK290 hb); have NB291_303 := nl BK291 hg; have NB303_291 := nr BK291 hg; replace BK291 := am (bb BK291 hb); have NB292_303 := nl BK292 hg; have NB303_292 := nr BK292 hg; replace BK292 := am (bb BK292 hb); have NB293_303 := nl BK293 hg; have NB303_293 := nr BK293 hg; replace BK293 := am (bb BK293 hb); have NB302_303 := nl BK302 hg; have NB303_302 := nr BK302 hg; replace BK302 := am (bb BK302 hb); clear hb hbox hg
                           refine hK.out _ _ ⟨bc BK290 0, bc BK290 1, bc BK291 0, bc BK291 1⟩ (fun hHeld => ?_)
                           clear hK K
                           refine norm_ (a' := ?_) ?_ ?_
                           rotate_left
                           · show Act.put _ (some 8) _ = _
                             simp only [Act.put, List.setIfInBounds_toArray, List.set_cons_zero, List.set_cons_succ, i64_w, i32_w]
                             rfl
                           exact nm (hJ1_8_9 (gb302, gb303) _ ⟨hHeld, (bq BK290), (bq BK291), (bq BK292), (bq BK293), (bq BK302), (bq BK303), GW302.out, NB290_302.out, NB302_290.out, NB291_302.out, NB302_291.out, NB292_302.out, NB302_292.out, NB293_302.out, NB302_293.out, NB303_302.out, NB302_303.out, GW303.out, NB290_303.out, NB303_290.out, NB291_303.out, NB303_291.out, NB292_303.out, NB303_292.out, NB293_303.out, NB303_293.out, bz⟩)
                     · skip
                       rintro _ w94 h_; obtain ⟨hS_, h0_, h1_, h2_, h3_, h4_⟩ := h_; replace BK290 := am h0_; replace BK291 := am h1_; replace BK292 := am h2_; replace BK293 := am h3_; replace HB := am h4_; clear h0_ h1_ h2_ h3_ h4_; have hHeld : w94.cell? ⟨gb290, 0, none⟩ = some (.int .i64 a0_0) ∧ w94.cell? ⟨gb290, 1, none⟩ = some (.int .u64 a0_1) ∧ w94.cell? ⟨gb291, 0, none⟩ = some (.int .i64 a1_0) ∧ w94.cell? ⟨gb291, 1, none⟩ = some (.int .u64 a1_1) := hS_
                       refine norm_ (a' := ?_) ?_ ?_
                       rotate_left
                       · simp only [putAll, Act.put, List.setIfInBounds_toArray, List.set_cons_zero, List.set_cons_succ]
                         rfl
                       refine three_ (i := 4) (j := 8) (k := 9) (Ni := some 23) (Nj := some 7) (Nk := some 8) #[true, true, true, true, true, false, false, false, false, false, false, false] #[true, true, true, true, false, false, false, false, true, false, false, false] #[true, true, true, true, false, false, false, false, false, true, false, false] rfl rfl rfl rfl rfl rfl (three_of HT_.out (by kernel_rfl)) (by decide) (by decide) (by decide) (fun K hK => ?_) (fun K hK => ?_) (fun K hK => ?_)
                       · skip
                         refine goes_ Tryd.func65 (by kernel_rfl) rfl #[.agg #[.int .u64 t294, .int .u64 t295], .agg #[.int .u64 t296, .int .u64 t297]] (by rfl) rfl rfl rf ?_
                         with_reducible refine (wide_divided.calls k t294 t295 t296 t297 t298 t299 t300 t301 _ A19.out).mono ?_
                         rintro e w95 ⟨rfl, hb⟩; refine ⟨_, rfl, ?_⟩; replace BK290 := am (bb BK290 hb); replace BK291 := am (bb BK291 hb); replace BK292 := am (bb BK292 hb); replace BK293 := am (bb BK293 hb); replace HB := am (below_step bz hb); (try clear hb); (try clear hb2); (try clear hk); (try clear hi)
                         refine hK.out _ _ ⟨bc BK290 0, bc BK290 1, bc BK291 0, bc BK291 1⟩ (fun hHeld => ?_)
                         clear hK K
                         refine norm_ (a' := ?_) ?_ ?_
                         rotate_left
                         · show Act.put _ (some 23) _ = _
                           simp only [Act.put, List.setIfInBounds_toArray, List.set_cons_zero, List.set_cons_succ, i64_w, i32_w]
                           rfl
                         refine pure_ (i := 5) (N := some 18) (v := ?_) (a' := ?_) #[true, true, true, true, true, true, false, false, false, false, false, false] rfl rfl (any_of HT_.out (by kernel_rfl)) (fun _ _ _ h => h) (Or.inl ⟨by rfl, ?_⟩) ?_ ?_
                         rotate_left; · intro w'; go_simp; with_reducible rfl
                         rotate_left; · simp only [Act.put, List.setIfInBounds_toArray, List.set_cons_zero, List.set_cons_succ, i64_w, i32_w]; rfl
                         refine pure_ (i := 6) (N := some 24) (v := ?_) (a' := ?_) #[true, true, true, true, true, true, true, false, false, false, false, false] rfl rfl (any_of HT_.out (by kernel_rfl)) (fun _ _ _ h => h) (Or.inl ⟨by rfl, ?_⟩) ?_ ?_
                         rotate_left; · intro w'; go_simp; with_reducible rfl
                         rotate_left; · simp only [Act.put, List.setIfInBounds_toArray, List.set_cons_zero, List.set_cons_succ, i64_w, i32_w]; rfl
                         refine pure_ (i := 7) (N := some 25) (v := ?_) (a' := ?_) #[true, true, true, true, true, true, true, true, false, false, false, false] rfl rfl (any_of HT_.out (by kernel_rfl)) (fun _ _ _ h => h) (Or.inl ⟨by rfl, ?_⟩) ?_ ?_
                         rotate_left; · intro w'; go_simp; with_reducible rfl
                         rotate_left; · simp only [Act.put, List.setIfInBounds_toArray, List.set_cons_zero, List.set_cons_succ, i64_w, i32_w]; rfl
                         exact nm (hJ1_3_4 () _ ⟨hHeld, (bq BK290), (bq BK291), (bq BK292), (bq BK293), bz⟩)
                       · skip
                         refine box_step (by rfl) (N := 7) (by rfl) (cs := #[.int .u64 0, .int .u64 0]) (t := 62) (by go_simp <;> rfl) ?_
                         intro gb302 hg w95 hbox hb; have BK302 := am (hbox); have GW302 := gw w hg; replace HB := am (below_step bz hb); have NB290_302 := nl BK290 hg; have NB302_290 := nr BK290 hg; replace BK290 := am (bb BK290 hb); have NB291_302 := nl BK291 hg; have NB302_291 := nr BK291 hg; replace BK291 := am (bb BK291 hb); have NB292_302 := nl BK292 hg; have NB302_292 := nr BK292 hg; replace BK292 := am (bb BK292 hb); have NB293_302 := nl BK293 hg; have NB302_293 := nr BK293 hg; replace BK293 := am (bb BK293 hb); clear hb hbox hg
                         refine hK.out _ _ ⟨bc BK290 0, bc BK290 1, bc BK291 0, bc BK291 1⟩ (fun hHeld => ?_)
                         clear hK K
                         refine norm_ (a' := ?_) ?_ ?_
                         rotate_left
                         · show Act.put _ (some 7) _ = _
                           simp only [Act.put, List.setIfInBounds_toArray, List.set_cons_zero, List.set_cons_succ, i64_w, i32_w]
                           rfl
                         exact nm (hJ1_3_8 (gb302) _ ⟨hHeld, (bq BK290), (bq BK291), (bq BK292), (bq BK293), (bq BK302), GW302.out, NB290_302.out, NB302_290.out, NB291_302.out, NB302_291.out, NB292_302.out, NB302_292.out, NB293_302.out, NB302_293.out, bz⟩)
                       · skip
                         refine box_step (by rfl) (N := 8) (by rfl) (cs := #[.int .u64 0, .int .u64 0]) (t := 62) (by go_simp <;> rfl) ?_
                         intro gb303 hg w95 hbox hb; have BK303 := am (hbox); have GW303 := gw w hg; replace HB := am (below_step bz hb); have NB290_303 := nl BK290 hg; have NB303_290 := nr BK290 hg; replace BK290 := am (bb BK290 hb); have NB291_303 := nl BK291 hg; have NB303_291 := nr BK291 hg; replace BK291 := am (bb BK291 hb); have NB292_303 := nl BK292 hg; have NB303_292 := nr BK292 hg; replace BK292 := am (bb BK292 hb); have NB293_303 := nl BK293 hg; have NB303_293 := nr BK293 hg; replace BK293 := am (bb BK293 hb); clear hb hbox hg
                         refine hK.out _ _ ⟨bc BK290 0, bc BK290 1, bc BK291 0, bc BK291 1⟩ (fun hHeld => ?_)
                         clear hK K
                         refine norm_ (a' := ?_) ?_ ?_
                         rotate_left
                         · show Act.put _ (some 8) _ = _
                           simp only [Act.put, List.setIfInBounds_toArray, List.set_cons_zero, List.set_cons_succ, i64_w, i32_w]
                           rfl
                         exact nm (hJ1_3_9 (gb303) _ ⟨hHeld, (bq BK290), (bq BK291), (bq BK292), (bq BK293), (bq BK303), GW303.out, NB290_303.out, NB303_290.out, NB291_303.out, NB303_291.out, NB292_303.out, NB303_292.out, NB293_303.out, NB303_293.out, bz⟩)
                   · skip
                     rintro ⟨gb302, gb303⟩ w95 h_; dsimp only at h_; obtain ⟨hS_, h0_, h1_, h2_, h3_, h4_, h5_, h6_, h8_, h9_, h10_, h11_, h12_, h13_, h14_, h15_, h16_, h17_, h18_, h20_, h21_, h22_, h23_, h24_, h25_, h26_, h27_, h28_⟩ := h_; replace BK290 := am h0_; replace BK291 := am h1_; replace BK292 := am h2_; replace BK293 := am h3_; have BK302 := am h4_; have BK303 := am h5_; have GW302 := am h6_; have NB290_302 := am h8_; have NB302_290 := am h9_; have NB291_302 := am h10_; have NB302_291 := am h11_; have NB292_302 := am h12_; have NB302_292 := am h13_; have NB293_302 := am h14_; have NB302_293 := am h15_; have NB303_302 := am h16_; have NB302_303 := am h17_; have GW303 := am h18_; have NB290_303 := am h20_; have NB303_290 := am h21_; have NB291_303 := am h22_; have NB303_291 := am h23_; have NB292_303 := am h24_; have NB303_292 := am h25_; have NB293_303 := am h26_; have NB303_293 := am h27_; replace HB := am h28_; clear h0_ h1_ h2_ h3_ h4_ h5_ h6_ h8_ h9_ h10_ h11_ h12_ h13_ h14_ h15_ h16_ h17_ h18_ h20_ h21_ h22_ h23_ h24_ h25_ h26_ h27_ h28_; have hHeld : w95.cell? ⟨gb290, 0, none⟩ = some (.int .i64 a0_0) ∧ w95.cell? ⟨gb290, 1, none⟩ = some (.int .u64 a0_1) ∧ w95.cell? ⟨gb291, 0, none⟩ = some (.int .i64 a1_0) ∧ w95.cell? ⟨gb291, 1, none⟩ = some (.int .u64 a1_1) := hS_
                     refine norm_ (a' := ?_) ?_ ?_
                     rotate_left
                     · simp only [putAll, Act.put, List.setIfInBounds_toArray, List.set_cons_zero, List.set_cons_succ]
                       rfl
                     refine one_ (i := 3) (N := some 22) #[true, true, true, true, false, false, false, false, true, true, false, false] rfl rfl (one_of HT_.out (by kernel_rfl)) (by decide) (fun K hK => ?_)
                     refine goes_ Tryd.func64 (by kernel_rfl) rfl #[.agg #[.int .i64 a1_0, .int .u64 a1_1]] (by rfl) rfl rfl rf ?_
                     with_reducible refine (wide_amount.calls a1_0 a1_1 t296 t297 _ A18.out).mono ?_
                     rintro e w96 ⟨rfl, hb⟩; refine ⟨_, rfl, ?_⟩; replace BK290 := am (bb BK290 hb); replace BK291 := am (bb BK291 hb); replace BK292 := am (bb BK292 hb); replace BK293 := am (bb BK293 hb); replace BK302 := am (bb BK302 hb); replace BK303 := am (bb BK303 hb); replace HB := am (below_step bz hb); (try clear hb); (try clear hb2); (try clear hk); (try clear hi)
                     refine hK.out _ _ ⟨bc BK290 0, bc BK290 1, bc BK291 0, bc BK291 1⟩ (fun hHeld => ?_)
                     clear hK K
                     refine norm_ (a' := ?_) ?_ ?_
                     rotate_left
                     · show Act.put _ (some 22) _ = _
                       simp only [Act.put, List.setIfInBounds_toArray, List.set_cons_zero, List.set_cons_succ, i64_w, i32_w]
                       rfl
                     exact nm (hJ1_3_8_9 (gb302, gb303) _ ⟨hHeld, (bq BK290), (bq BK291), (bq BK292), (bq BK293), (bq BK302), (bq BK303), GW302.out, NB290_302.out, NB302_290.out, NB291_302.out, NB302_291.out, NB292_302.out, NB302_292.out, NB293_302.out, NB302_293.out, NB303_302.out, NB302_303.out, GW303.out, NB290_303.out, NB303_290.out, NB291_303.out, NB303_291.out, NB292_303.out, NB303_292.out, NB293_303.out, NB303_293.out, bz⟩)
                 · skip
                   rintro gb303 w95 h_; obtain ⟨hS_, h0_, h1_, h2_, h3_, h4_, h5_, h7_, h8_, h9_, h10_, h11_, h12_, h13_, h14_, h15_⟩ := h_; replace BK290 := am h0_; replace BK291 := am h1_; replace BK292 := am h2_; replace BK293 := am h3_; have BK303 := am h4_; have GW303 := am h5_; have NB290_303 := am h7_; have NB303_290 := am h8_; have NB291_303 := am h9_; have NB303_291 := am h10_; have NB292_303 := am h11_; have NB303_292 := am h12_; have NB293_303 := am h13_; have NB303_293 := am h14_; replace HB := am h15_; clear h0_ h1_ h2_ h3_ h4_ h5_ h7_ h8_ h9_ h10_ h11_ h12_ h13_ h14_ h15_; have hHeld : w95.cell? ⟨gb290, 0, none⟩ = some (.int .i64 a0_0) ∧ w95.cell? ⟨gb290, 1, none⟩ = some (.int .u64 a0_1) ∧ w95.cell? ⟨gb291, 0, none⟩ = some (.int .i64 a1_0) ∧ w95.cell? ⟨gb291, 1, none⟩ = some (.int .u64 a1_1) := hS_
                   refine norm_ (a' := ?_) ?_ ?_
                   rotate_left
                   · simp only [putAll, Act.put, List.setIfInBounds_toArray, List.set_cons_zero, List.set_cons_succ]
                     rfl
                   refine two_ (i := 4) (j := 8) (Ni := some 23) (Nj := some 7) #[true, true, true, true, true, false, false, false, false, true, false, false] #[true, true, true, true, false, false, false, false, true, true, false, false] rfl rfl rfl rfl (two_of HT_.out (by kernel_rfl)) (by decide) (by decide) (fun K hK => ?_) (fun K hK => ?_)
                   · skip
                     refine goes_ Tryd.func65 (by kernel_rfl) rfl #[.agg #[.int .u64 t294, .int .u64 t295], .agg #[.int .u64 t296, .int .u64 t297]] (by rfl) rfl rfl rf ?_
                     with_reducible refine (wide_divided.calls k t294 t295 t296 t297 t298 t299 t300 t301 _ A19.out).mono ?_
                     rintro e w96 ⟨rfl, hb⟩; refine ⟨_, rfl, ?_⟩; replace BK290 := am (bb BK290 hb); replace BK291 := am (bb BK291 hb); replace BK292 := am (bb BK292 hb); replace BK293 := am (bb BK293 hb); replace BK303 := am (bb BK303 hb); replace HB := am (below_step bz hb); (try clear hb); (try clear hb2); (try clear hk); (try clear hi)
                     refine hK.out _ _ ⟨bc BK290 0, bc BK290 1, bc BK291 0, bc BK291 1⟩ (fun hHeld => ?_)
                     clear hK K
                     refine norm_ (a' := ?_) ?_ ?_
                     rotate_left
                     · show Act.put _ (some 23) _ = _
                       simp only [Act.put, List.setIfInBounds_toArray, List.set_cons_zero, List.set_cons_succ, i64_w, i32_w]
                       rfl
                     refine pure_ (i := 5) (N := some 18) (v := ?_) (a' := ?_) #[true, true, true, true, true, true, false, false, false, true, false, false] rfl rfl (any_of HT_.out (by kernel_rfl)) (fun _ _ _ h => h) (Or.inl ⟨by rfl, ?_⟩) ?_ ?_
                     rotate_left; · intro w'; go_simp; with_reducible rfl
                     rotate_left; · simp only [Act.put, List.setIfInBounds_toArray, List.set_cons_zero, List.set_cons_succ, i64_w, i32_w]; rfl
                     refine pure_ (i := 6) (N := some 24) (v := ?_) (a' := ?_) #[true, true, true, true, true, true, true, false, false, true, false, false] rfl rfl (any_of HT_.out (by kernel_rfl)) (fun _ _ _ h => h) (Or.inl ⟨by rfl, ?_⟩) ?_ ?_
                     rotate_left; · intro w'; go_simp; with_reducible rfl
                     rotate_left; · simp only [Act.put, List.setIfInBounds_toArray, List.set_cons_zero, List.set_cons_succ, i64_w, i32_w]; rfl
                     refine pure_ (i := 7) (N := some 25) (v := ?_) (a' := ?_) #[true, true, true, true, true, true, true, true, false, true, false, false] rfl rfl (any_of HT_.out (by kernel_rfl)) (fun _ _ _ h => h) (Or.inl ⟨by rfl, ?_⟩) ?_ ?_
                     rotate_left; · intro w'; go_simp; with_reducible rfl
                     rotate_left; · simp only [Act.put, List.setIfInBounds_toArray, List.set_cons_zero, List.set_cons_succ, i64_w, i32_w]; rfl
                     exact nm (hJ1_3_4_9 (gb303) _ ⟨hHeld, (bq BK290), (bq BK291), (bq BK292), (bq BK293), (bq BK303), GW303.out, NB290_303.out, NB303_290.out, NB291_303.out, NB303_291.out, NB292_303.out, NB303_292.out, NB293_303.out, NB303_293.out, bz⟩)
                   · skip
                     refine box_step (by rfl) (N := 7) (by rfl) (cs := #[.int .u64 0, .int .u64 0]) (t := 62) (by go_simp <;> rfl) ?_
                     intro gb302 hg w96 hbox hb; have BK302 := am (hbox); have GW302 := gw w hg; replace HB := am (below_step bz hb); have NB290_302 := nl BK290 hg; have NB302_290 := nr BK290 hg; replace BK290 := am (bb BK290 hb); have NB291_302 := nl BK291 hg; have NB302_291 := nr BK291 hg; replace BK291 := am (bb BK291 hb); have NB292_302 := nl BK292 hg; have NB302_292 := nr BK292 hg; replace BK292 := am (bb BK292 hb); have NB293_302 := nl BK293 hg; have NB302_293 := nr BK293 hg; replace BK293 := am (bb BK293 hb); have NB303_302 := nl BK303 hg; have NB302_303 := nr BK303 hg; replace BK303 := am (bb BK303 hb); clear hb hbox hg
                     refine hK.out _ _ ⟨bc BK290 0, bc BK290 1, bc BK291 0, bc BK291 1⟩ (fun hHeld => ?_)
                     clear hK K
                     refine norm_ (a' := ?_) ?_ ?_
                     rotate_left
                     · show Act.put _ (some 7) _ = _
                       simp only [Act.put, List.setIfInBounds_toArray, List.set_cons_zero, List.set_cons_succ, i64_w, i32_w]
                       rfl
                     exact nm (hJ1_3_8_9 (gb302, gb303) _ ⟨hHeld, (bq BK290), (bq BK291), (bq BK292), (bq BK293), (bq BK302), (bq BK303), GW302.out, NB290_302.out, NB302_290.out, NB291_302.out, NB302_291.out, NB292_302.out, NB302_292.out, NB293_302.out, NB302_293.out, NB303_302.out, NB302_303.out, GW303.out, NB290_303.out, NB303_290.out, NB291_303.out, NB303_291.out, NB292_303.out, NB303_292.out, NB293_303.out, NB303_293.out, bz⟩)
               · skip
                 rintro gb302 w95 h_; obtain ⟨hS_, h0_, h1_, h2_, h3_, h4_, h5_, h7_, h8_, h9_, h10_, h11_, h12_, h13_, h14_, h15_⟩ := h_; replace BK290 := am h0_; replace BK291 := am h1_; replace BK292 := am h2_; replace BK293 := am h3_; have BK302 := am h4_; have GW302 := am h5_; have NB290_302 := am h7_; have NB302_290 := am h8_; have NB291_302 := am h9_; have NB302_291 := am h10_; have NB292_302 := am h11_; have NB302_292 := am h12_; have NB293_302 := am h13_; have NB302_293 := am h14_; replace HB := am h15_; clear h0_ h1_ h2_ h3_ h4_ h5_ h7_ h8_ h9_ h10_ h11_ h12_ h13_ h14_ h15_; have hHeld : w95.cell? ⟨gb290, 0, none⟩ = some (.int .i64 a0_0) ∧ w95.cell? ⟨gb290, 1, none⟩ = some (.int .u64 a0_1) ∧ w95.cell? ⟨gb291, 0, none⟩ = some (.int .i64 a1_0) ∧ w95.cell? ⟨gb291, 1, none⟩ = some (.int .u64 a1_1) := hS_
                 refine norm_ (a' := ?_) ?_ ?_
                 rotate_left
                 · simp only [putAll, Act.put, List.setIfInBounds_toArray, List.set_cons_zero, List.set_cons_succ]
                   rfl
                 refine two_ (i := 4) (j := 9) (Ni := some 23) (Nj := some 8) #[true, true, true, true, true, false, false, false, true, false, false, false] #[true, true, true, true, false, false, false, false, true, true, false, false] rfl rfl rfl rfl (two_of HT_.out (by kernel_rfl)) (by decide) (by decide) (fun K hK => ?_) (fun K hK => ?_)
                 · skip
                   refine goes_ Tryd.func65 (by kernel_rfl) rfl #[.agg #[.int .u64 t294, .int .u64 t295], .agg #[.int .u64 t296, .int .u64 t297]] (by rfl) rfl rfl rf ?_
                   with_reducible refine (wide_divided.calls k t294 t295 t296 t297 t298 t299 t300 t301 _ A19.out).mono ?_
                   rintro e w96 ⟨rfl, hb⟩; refine ⟨_, rfl, ?_⟩; replace BK290 := am (bb BK290 hb); replace BK291 := am (bb BK291 hb); replace BK292 := am (bb BK292 hb); replace BK293 := am (bb BK293 hb); replace BK302 := am (bb BK302 hb); replace HB := am (below_step bz hb); (try clear hb); (try clear hb2); (try clear hk); (try clear hi)
                   refine hK.out _ _ ⟨bc BK290 0, bc BK290 1, bc BK291 0, bc BK291 1⟩ (fun hHeld => ?_)
                   clear hK K
                   refine norm_ (a' := ?_) ?_ ?_
                   rotate_left
                   · show Act.put _ (some 23) _ = _
                     simp only [Act.put, List.setIfInBounds_toArray, List.set_cons_zero, List.set_cons_succ, i64_w, i32_w]
                     rfl
                   refine pure_ (i := 5) (N := some 18) (v := ?_) (a' := ?_) #[true, true, true, true, true, true, false, false, true, false, false, false] rfl rfl (any_of HT_.out (by kernel_rfl)) (fun _ _ _ h => h) (Or.inl ⟨by rfl, ?_⟩) ?_ ?_
                   rotate_left; · intro w'; go_simp; with_reducible rfl
                   rotate_left; · simp only [Act.put, List.setIfInBounds_toArray, List.set_cons_zero, List.set_cons_succ, i64_w, i32_w]; rfl
                   refine pure_ (i := 6) (N := some 24) (v := ?_) (a' := ?_) #[true, true, true, true, true, true, true, false, true, false, false, false] rfl rfl (any_of HT_.out (by kernel_rfl)) (fun _ _ _ h => h) (Or.inl ⟨by rfl, ?_⟩) ?_ ?_
                   rotate_left; · intro w'; go_simp; with_reducible rfl
                   rotate_left; · simp only [Act.put, List.setIfInBounds_toArray, List.set_cons_zero, List.set_cons_succ, i64_w, i32_w]; rfl
                   refine pure_ (i := 7) (N := some 25) (v := ?_) (a' := ?_) #[true, true, true, true, true, true, true, true, true, false, false, false] rfl rfl (any_of HT_.out (by kernel_rfl)) (fun _ _ _ h => h) (Or.inl ⟨by rfl, ?_⟩) ?_ ?_
                   rotate_left; · intro w'; go_simp; with_reducible rfl
                   rotate_left; · simp only [Act.put, List.setIfInBounds_toArray, List.set_cons_zero, List.set_cons_succ, i64_w, i32_w]; rfl
                   exact nm (hJ1_3_4_8 (gb302) _ ⟨hHeld, (bq BK290), (bq BK291), (bq BK292), (bq BK293), (bq BK302), GW302.out, NB290_302.out, NB302_290.out, NB291_302.out, NB302_291.out, NB292_302.out, NB302_292.out, NB293_302.out, NB302_293.out, bz⟩)
                 · skip
                   refine box_step (by rfl) (N := 8) (by rfl) (cs := #[.int .u64 0, .int .u64 0]) (t := 62) (by go_simp <;> rfl) ?_
                   intro gb303 hg w96 hbox hb; have BK303 := am (hbox); have GW303 := gw w hg; replace HB := am (below_step bz hb); have NB290_303 := nl BK290 hg; have NB303_290 := nr BK290 hg; replace BK290 := am (bb BK290 hb); have NB291_303 := nl BK291 hg; have NB303_291 := nr BK291 hg; replace BK291 := am (bb BK291 hb); have NB292_303 := nl BK292 hg; have NB303_292 := nr BK292 hg; replace BK292 := am (bb BK292 hb); have NB293_303 := nl BK293 hg; have NB303_293 := nr BK293 hg; replace BK293 := am (bb BK293 hb); have NB302_303 := nl BK302 hg; have NB303_302 := nr BK302 hg; replace BK302 := am (bb BK302 hb); clear hb hbox hg
                   refine hK.out _ _ ⟨bc BK290 0, bc BK290 1, bc BK291 0, bc BK291 1⟩ (fun hHeld => ?_)
                   clear hK K
                   refine norm_ (a' := ?_) ?_ ?_
                   rotate_left
                   · show Act.put _ (some 8) _ = _
                     simp only [Act.put, List.setIfInBounds_toArray, List.set_cons_zero, List.set_cons_succ, i64_w, i32_w]
                     rfl
                   exact nm (hJ1_3_8_9 (gb302, gb303) _ ⟨hHeld, (bq BK290), (bq BK291), (bq BK292), (bq BK293), (bq BK302), (bq BK303), GW302.out, NB290_302.out, NB302_290.out, NB291_302.out, NB302_291.out, NB292_302.out, NB302_292.out, NB293_302.out, NB302_293.out, NB303_302.out, NB302_303.out, GW303.out, NB290_303.out, NB303_290.out, NB291_303.out, NB303_291.out, NB292_303.out, NB303_292.out, NB293_303.out, NB303_293.out, bz⟩)
             · skip
               rintro _ w95 h_; obtain ⟨hS_, h0_, h1_, h2_, h3_, h4_⟩ := h_; replace BK290 := am h0_; replace BK291 := am h1_; replace BK292 := am h2_; replace BK293 := am h3_; replace HB := am h4_; clear h0_ h1_ h2_ h3_ h4_; have hHeld : w95.cell? ⟨gb290, 0, none⟩ = some (.int .i64 a0_0) ∧ w95.cell? ⟨gb290, 1, none⟩ = some (.int .u64 a0_1) ∧ w95.cell? ⟨gb291, 0, none⟩ = some (.int .i64 a1_0) ∧ w95.cell? ⟨gb291, 1, none⟩ = some (.int .u64 a1_1) := hS_
               refine norm_ (a' := ?_) ?_ ?_
               rotate_left
               · simp only [putAll, Act.put, List.setIfInBounds_toArray, List.set_cons_zero, List.set_cons_succ]
                 rfl
               refine two_ (i := 8) (j := 9) (Ni := some 7) (Nj := some 8) #[true, true, true, true, true, true, true, true, true, false, false, false] #[true, true, true, true, true, true, true, true, false, true, false, false] rfl rfl rfl rfl (two_of HT_.out (by kernel_rfl)) (by decide) (by decide) (fun K hK => ?_) (fun K hK => ?_)
               · skip
                 refine box_step (by rfl) (N := 7) (by rfl) (cs := #[.int .u64 0, .int .u64 0]) (t := 62) (by go_simp <;> rfl) ?_
                 intro gb302 hg w96 hbox hb; have BK302 := am (hbox); have GW302 := gw w hg; replace HB := am (below_step bz hb); have NB290_302 := nl BK290 hg; have NB302_290 := nr BK290 hg; replace BK290 := am (bb BK290 hb); have NB291_302 := nl BK291 hg; have NB302_291 := nr BK291 hg; replace BK291 := am (bb BK291 hb); have NB292_302 := nl BK292 hg; have NB302_292 := nr BK292 hg; replace BK292 := am (bb BK292 hb); have NB293_302 := nl BK293 hg; have NB302_293 := nr BK293 hg; replace BK293 := am (bb BK293 hb); clear hb hbox hg
                 refine hK.out _ _ ⟨bc BK290 0, bc BK290 1, bc BK291 0, bc BK291 1⟩ (fun hHeld => ?_)
                 clear hK K
                 refine norm_ (a' := ?_) ?_ ?_
                 rotate_left
                 · show Act.put _ (some 7) _ = _
                   simp only [Act.put, List.setIfInBounds_toArray, List.set_cons_zero, List.set_cons_succ, i64_w, i32_w]
                   rfl
                 exact nm (hJ1_3_4_8 (gb302) _ ⟨hHeld, (bq BK290), (bq BK291), (bq BK292), (bq BK293), (bq BK302), GW302.out, NB290_302.out, NB302_290.out, NB291_302.out, NB302_291.out, NB292_302.out, NB302_292.out, NB293_302.out, NB302_293.out, bz⟩)
               · skip
                 refine box_step (by rfl) (N := 8) (by rfl) (cs := #[.int .u64 0, .int .u64 0]) (t := 62) (by go_simp <;> rfl) ?_
                 intro gb303 hg w96 hbox hb; have BK303 := am (hbox); have GW303 := gw w hg; replace HB := am (below_step bz hb); have NB290_303 := nl BK290 hg; have NB303_290 := nr BK290 hg; replace BK290 := am (bb BK290 hb); have NB291_303 := nl BK291 hg; have NB303_291 := nr BK291 hg; replace BK291 := am (bb BK291 hb); have NB292_303 := nl BK292 hg; have NB303_292 := nr BK292 hg; replace BK292 := am (bb BK292 hb); have NB293_303 := nl BK293 hg; have NB303_293 := nr BK293 hg; replace BK293 := am (bb BK293 hb); clear hb hbox hg
                 refine hK.out _ _ ⟨bc BK290 0, bc BK290 1, bc BK291 0, bc BK291 1⟩ (fun hHeld => ?_)
                 clear hK K
                 refine norm_ (a' := ?_) ?_ ?_
                 rotate_left
                 · show Act.put _ (some 8) _ = _
                   simp only [Act.put, List.setIfInBounds_toArray, List.set_cons_zero, List.set_cons_succ, i64_w, i32_w]
                   rfl
                 exact nm (hJ1_3_4_9 (gb303) _ ⟨hHeld, (bq BK290), (bq BK291), (bq BK292), (bq BK293), (bq BK303), GW303.out, NB290_303.out, NB303_290.out, NB291_303.out, NB303_291.out, NB292_303.out, NB303_292.out, NB293_303.out, NB303_293.out, bz⟩)
           · skip
             rintro ⟨gb302, gb303⟩ w96 h_; dsimp only at h_; obtain ⟨hS_, h0_, h1_, h2_, h3_, h4_, h5_, h6_, h8_, h9_, h10_, h11_, h12_, h13_, h14_, h15_, h16_, h17_, h18_, h20_, h21_, h22_, h23_, h24_, h25_, h26_, h27_, h28_⟩ := h_; replace BK290 := am h0_; replace BK291 := am h1_; replace BK292 := am h2_; replace BK293 := am h3_; have BK302 := am h4_; have BK303 := am h5_; have GW302 := am h6_; have NB290_302 := am h8_; have NB302_290 := am h9_; have NB291_302 := am h10_; have NB302_291 := am h11_; have NB292_302 := am h12_; have NB302_292 := am h13_; have NB293_302 := am h14_; have NB302_293 := am h15_; have NB303_302 := am h16_; have NB302_303 := am h17_; have GW303 := am h18_; have NB290_303 := am h20_; have NB303_290 := am h21_; have NB291_303 := am h22_; have NB303_291 := am h23_; have NB292_303 := am h24_; have NB303_292 := am h25_; have NB293_303 := am h26_; have NB303_293 := am h27_; replace HB := am h28_; clear h0_ h1_ h2_ h3_ h4_ h5_ h6_ h8_ h9_ h10_ h11_ h12_ h13_ h14_ h15_ h16_ h17_ h18_ h20_ h21_ h22_ h23_ h24_ h25_ h26_ h27_ h28_; have hHeld : w96.cell? ⟨gb290, 0, none⟩ = some (.int .i64 a0_0) ∧ w96.cell? ⟨gb290, 1, none⟩ = some (.int .u64 a0_1) ∧ w96.cell? ⟨gb291, 0, none⟩ = some (.int .i64 a1_0) ∧ w96.cell? ⟨gb291, 1, none⟩ = some (.int .u64 a1_1) := hS_
             refine norm_ (a' := ?_) ?_ ?_
             rotate_left
             · simp only [putAll, Act.put, List.setIfInBounds_toArray, List.set_cons_zero, List.set_cons_succ]
               rfl
             refine one_ (i := 4) (N := some 23) #[true, true, true, true, true, false, false, false, true, true, false, false] rfl rfl (one_of HT_.out (by kernel_rfl)) (by decide) (fun K hK => ?_)
             refine goes_ Tryd.func65 (by kernel_rfl) rfl #[.agg #[.int .u64 t294, .int .u64 t295], .agg #[.int .u64 t296, .int .u64 t297]] (by rfl) rfl rfl rf ?_
             with_reducible refine (wide_divided.calls k t294 t295 t296 t297 t298 t299 t300 t301 _ A19.out).mono ?_
             rintro e w97 ⟨rfl, hb⟩; refine ⟨_, rfl, ?_⟩; replace BK290 := am (bb BK290 hb); replace BK291 := am (bb BK291 hb); replace BK292 := am (bb BK292 hb); replace BK293 := am (bb BK293 hb); replace BK302 := am (bb BK302 hb); replace BK303 := am (bb BK303 hb); replace HB := am (below_step bz hb); (try clear hb); (try clear hb2); (try clear hk); (try clear hi)
             refine hK.out _ _ ⟨bc BK290 0, bc BK290 1, bc BK291 0, bc BK291 1⟩ (fun hHeld => ?_)
             clear hK K
             refine norm_ (a' := ?_) ?_ ?_
             rotate_left
             · show Act.put _ (some 23) _ = _
               simp only [Act.put, List.setIfInBounds_toArray, List.set_cons_zero, List.set_cons_succ, i64_w, i32_w]
               rfl
             refine pure_ (i := 5) (N := some 18) (v := ?_) (a' := ?_) #[true, true, true, true, true, true, false, false, true, true, false, false] rfl rfl (any_of HT_.out (by kernel_rfl)) (fun _ _ _ h => h) (Or.inl ⟨by rfl, ?_⟩) ?_ ?_
             rotate_left; · intro w'; go_simp; with_reducible rfl
             rotate_left; · simp only [Act.put, List.setIfInBounds_toArray, List.set_cons_zero, List.set_cons_succ, i64_w, i32_w]; rfl
             refine pure_ (i := 6) (N := some 24) (v := ?_) (a' := ?_) #[true, true, true, true, true, true, true, false, true, true, false, false] rfl rfl (any_of HT_.out (by kernel_rfl)) (fun _ _ _ h => h) (Or.inl ⟨by rfl, ?_⟩) ?_ ?_
             rotate_left; · intro w'; go_simp; with_reducible rfl
             rotate_left; · simp only [Act.put, List.setIfInBounds_toArray, List.set_cons_zero, List.set_cons_succ, i64_w, i32_w]; rfl
             refine pure_ (i := 7) (N := some 25) (v := ?_) (a' := ?_) #[true, true, true, true, true, true, true, true, true, true, false, false] rfl rfl (any_of HT_.out (by kernel_rfl)) (fun _ _ _ h => h) (Or.inl ⟨by rfl, ?_⟩) ?_ ?_
             rotate_left; · intro w'; go_simp; with_reducible rfl
             rotate_left; · simp only [Act.put, List.setIfInBounds_toArray, List.set_cons_zero, List.set_cons_succ, i64_w, i32_w]; rfl
             exact nm (hJ1_3_4_8_9 (gb302, gb303) _ ⟨hHeld, (bq BK290), (bq BK291), (bq BK292), (bq BK293), (bq BK302), (bq BK303), GW302.out, NB290_302.out, NB302_290.out, NB291_302.out, NB302_291.out, NB292_302.out, NB302_292.out, NB293_302.out, NB302_293.out, NB303_302.out, NB302_303.out, GW303.out, NB290_303.out, NB303_290.out, NB291_303.out, NB303_291.out, NB292_303.out, NB303_292.out, NB293_303.out, NB303_293.out, bz⟩)
         · skip
           rintro gb303 w96 h_; obtain ⟨hS_, h0_, h1_, h2_, h3_, h4_, h5_, h7_, h8_, h9_, h10_, h11_, h12_, h13_, h14_, h15_⟩ := h_; replace BK290 := am h0_; replace BK291 := am h1_; replace BK292 := am h2_; replace BK293 := am h3_; have BK303 := am h4_; have GW303 := am h5_; have NB290_303 := am h7_; have NB303_290 := am h8_; have NB291_303 := am h9_; have NB303_291 := am h10_; have NB292_303 := am h11_; have NB303_292 := am h12_; have NB293_303 := am h13_; have NB303_293 := am h14_; replace HB := am h15_; clear h0_ h1_ h2_ h3_ h4_ h5_ h7_ h8_ h9_ h10_ h11_ h12_ h13_ h14_ h15_; have hHeld : w96.cell? ⟨gb290, 0, none⟩ = some (.int .i64 a0_0) ∧ w96.cell? ⟨gb290, 1, none⟩ = some (.int .u64 a0_1) ∧ w96.cell? ⟨gb291, 0, none⟩ = some (.int .i64 a1_0) ∧ w96.cell? ⟨gb291, 1, none⟩ = some (.int .u64 a1_1) := hS_
           refine norm_ (a' := ?_) ?_ ?_
           rotate_left
           · simp only [putAll, Act.put, List.setIfInBounds_toArray, List.set_cons_zero, List.set_cons_succ]
             rfl
           refine one_ (i := 8) (N := some 7) #[true, true, true, true, true, true, true, true, true, true, false, false] rfl rfl (one_of HT_.out (by kernel_rfl)) (by decide) (fun K hK => ?_)
           refine box_step (by rfl) (N := 7) (by rfl) (cs := #[.int .u64 0, .int .u64 0]) (t := 62) (by go_simp <;> rfl) ?_
           intro gb302 hg w97 hbox hb; have BK302 := am (hbox); have GW302 := gw w hg; replace HB := am (below_step bz hb); have NB290_302 := nl BK290 hg; have NB302_290 := nr BK290 hg; replace BK290 := am (bb BK290 hb); have NB291_302 := nl BK291 hg; have NB302_291 := nr BK291 hg; replace BK291 := am (bb BK291 hb); have NB292_302 := nl BK292 hg; have NB302_292 := nr BK292 hg; replace BK292 := am (bb BK292 hb); have NB293_302 := nl BK293 hg; have NB302_293 := nr BK293 hg; replace BK293 := am (bb BK293 hb); have NB303_302 := nl BK303 hg; have NB302_303 := nr BK303 hg; replace BK303 := am (bb BK303 hb); clear hb hbox hg
           refine hK.out _ _ ⟨bc BK290 0, bc BK290 1, bc BK291 0, bc BK291 1⟩ (fun hHeld => ?_)
           clear hK K
           refine norm_ (a' := ?_) ?_ ?_
           rotate_left
           · show Act.put _ (some 7) _ = _
             simp only [Act.put, List.setIfInBounds_toArray, List.set_cons_zero, List.set_cons_succ, i64_w, i32_w]
             rfl
           exact nm (hJ1_3_4_8_9 (gb302, gb303) _ ⟨hHeld, (bq BK290), (bq BK291), (bq BK292), (bq BK293), (bq BK302), (bq BK303), GW302.out, NB290_302.out, NB302_290.out, NB291_302.out, NB302_291.out, NB292_302.out, NB302_292.out, NB293_302.out, NB302_293.out, NB303_302.out, NB302_303.out, GW303.out, NB290_303.out, NB303_290.out, NB291_303.out, NB303_291.out, NB292_303.out, NB303_292.out, NB293_303.out, NB303_293.out, bz⟩)
       · skip
         rintro gb302 w96 h_; obtain ⟨hS_, h0_, h1_, h2_, h3_, h4_, h5_, h7_, h8_, h9_, h10_, h11_, h12_, h13_, h14_, h15_⟩ := h_; replace BK290 := am h0_; replace BK291 := am h1_; replace BK292 := am h2_; replace BK293 := am h3_; have BK302 := am h4_; have GW302 := am h5_; have NB290_302 := am h7_; have NB302_290 := am h8_; have NB291_302 := am h9_; have NB302_291 := am h10_; have NB292_302 := am h11_; have NB302_292 := am h12_; have NB293_302 := am h13_; have NB302_293 := am h14_; replace HB := am h15_; clear h0_ h1_ h2_ h3_ h4_ h5_ h7_ h8_ h9_ h10_ h11_ h12_ h13_ h14_ h15_; have hHeld : w96.cell? ⟨gb290, 0, none⟩ = some (.int .i64 a0_0) ∧ w96.cell? ⟨gb290, 1, none⟩ = some (.int .u64 a0_1) ∧ w96.cell? ⟨gb291, 0, none⟩ = some (.int .i64 a1_0) ∧ w96.cell? ⟨gb291, 1, none⟩ = some (.int .u64 a1_1) := hS_
         refine norm_ (a' := ?_) ?_ ?_
         rotate_left
         · simp only [putAll, Act.put, List.setIfInBounds_toArray, List.set_cons_zero, List.set_cons_succ]
           rfl
         refine one_ (i := 9) (N := some 8) #[true, true, true, true, true, true, true, true, true, true, false, false] rfl rfl (one_of HT_.out (by kernel_rfl)) (by decide) (fun K hK => ?_)
         refine box_step (by rfl) (N := 8) (by rfl) (cs := #[.int .u64 0, .int .u64 0]) (t := 62) (by go_simp <;> rfl) ?_
         intro gb303 hg w97 hbox hb; have BK303 := am (hbox); have GW303 := gw w hg; replace HB := am (below_step bz hb); have NB290_303 := nl BK290 hg; have NB303_290 := nr BK290 hg; replace BK290 := am (bb BK290 hb); have NB291_303 := nl BK291 hg; have NB303_291 := nr BK291 hg; replace BK291 := am (bb BK291 hb); have NB292_303 := nl BK292 hg; have NB303_292 := nr BK292 hg; replace BK292 := am (bb BK292 hb); have NB293_303 := nl BK293 hg; have NB303_293 := nr BK293 hg; replace BK293 := am (bb BK293 hb); have NB302_303 := nl BK302 hg; have NB303_302 := nr BK302 hg; replace BK302 := am (bb BK302 hb); clear hb hbox hg
         refine hK.out _ _ ⟨bc BK290 0, bc BK290 1, bc BK291 0, bc BK291 1⟩ (fun hHeld => ?_)
         clear hK K
         refine norm_ (a' := ?_) ?_ ?_
         rotate_left
         · show Act.put _ (some 8) _ = _
           simp only [Act.put, List.setIfInBounds_toArray, List.set_cons_zero, List.set_cons_succ, i64_w, i32_w]
           rfl
         exact nm (hJ1_3_4_8_9 (gb302, gb303) _ ⟨hHeld, (bq BK290), (bq BK291), (bq BK292), (bq BK293), (bq BK302), (bq BK303), GW302.out, NB290_302.out, NB302_290.out, NB291_302.out, NB302_291.out, NB292_302.out, NB302_292.out, NB293_302.out, NB302_293.out, NB303_302.out, NB302_303.out, GW303.out, NB290_303.out, NB303_290.out, NB291_303.out, NB303_291.out, NB292_303.out, NB303_292.out, NB293_303.out, NB303_293.out, bz⟩)
     rintro ⟨gb302, gb303⟩ w97 h_; dsimp only at h_; obtain ⟨hS_, h0_, h1_, h2_, h3_, h4_, h5_, h6_, h8_, h9_, h10_, h11_, h12_, h13_, h14_, h15_, h16_, h17_, h18_, h20_, h21_, h22_, h23_, h24_, h25_, h26_, h27_, h28_⟩ := h_; replace BK290 := am h0_; replace BK291 := am h1_; replace BK292 := am h2_; replace BK293 := am h3_; have BK302 := am h4_; have BK303 := am h5_; have GW302 := am h6_; have NB290_302 := am h8_; have NB302_290 := am h9_; have NB291_302 := am h10_; have NB302_291 := am h11_; have NB292_302 := am h12_; have NB302_292 := am h13_; have NB293_302 := am h14_; have NB302_293 := am h15_; have NB303_302 := am h16_; have NB302_303 := am h17_; have GW303 := am h18_; have NB290_303 := am h20_; have NB303_290 := am h21_; have NB291_303 := am h22_; have NB303_291 := am h23_; have NB292_303 := am h24_; have NB303_292 := am h25_; have NB293_303 := am h26_; have NB303_293 := am h27_; replace HB := am h28_; clear h0_ h1_ h2_ h3_ h4_ h5_ h6_ h8_ h9_ h10_ h11_ h12_ h13_ h14_ h15_ h16_ h17_ h18_ h20_ h21_ h22_ h23_ h24_ h25_ h26_ h27_ h28_; have hHeld : w97.cell? ⟨gb290, 0, none⟩ = some (.int .i64 a0_0) ∧ w97.cell? ⟨gb290, 1, none⟩ = some (.int .u64 a0_1) ∧ w97.cell? ⟨gb291, 0, none⟩ = some (.int .i64 a1_0) ∧ w97.cell? ⟨gb291, 1, none⟩ = some (.int .u64 a1_1) := hS_
     refine norm_ (a' := ?_) ?_ ?_
     rotate_left
     · simp only [putAll, Act.put, List.setIfInBounds_toArray, List.set_cons_zero, List.set_cons_succ]
       rfl
     refine one_ (i := 10) (N := none) #[true, true, true, true, true, true, true, true, true, true, true, false] rfl rfl (one_of HT_.out (by kernel_rfl)) (by decide) (fun K hK => ?_)
     have hs98 : w97.cell? ⟨gb302, 0, none⟩ = some (.int .u64 0) := bc BK302 0; have hfs98 := blk_frozen BK302.out 0; have hns98_0 := NB290_302.out; have hns98_1 := NB291_302.out; have hns98_2 := NB292_302.out; have hns98_3 := NB293_302.out; have hns98_5 := NB303_302.out; have hms98_0 := NB302_290.out; have hms98_1 := NB302_291.out; have hms98_2 := NB302_292.out; have hms98_3 := NB302_293.out; have hms98_5 := NB302_303.out; have hs99 : w97.cell? ⟨gb302, 1, none⟩ = some (.int .u64 0) := bc BK302 1; have hfs99 := blk_frozen BK302.out 1; have hns99_0 := NB290_302.out; have hns99_1 := NB291_302.out; have hns99_2 := NB292_302.out; have hns99_3 := NB293_302.out; have hns99_5 := NB303_302.out; have hms99_0 := NB302_290.out; have hms99_1 := NB302_291.out; have hms99_2 := NB302_292.out; have hms99_3 := NB302_293.out; have hms99_5 := NB302_303.out
     refine skip_ (w1 := ?_) (by rfl) rfl ?_ ?_
     rotate_left
     · go_simp
       rfl
     refine hK.out _ _ ⟨((cell_far (p := ⟨gb302, _, none⟩) NB290_302.out _).trans (((cell_far (p := ⟨gb302, _, none⟩) NB290_302.out _).trans (hHeld.1)))), ((cell_far (p := ⟨gb302, _, none⟩) NB290_302.out _).trans (((cell_far (p := ⟨gb302, _, none⟩) NB290_302.out _).trans (hHeld.2.1)))), ((cell_far (p := ⟨gb302, _, none⟩) NB291_302.out _).trans (((cell_far (p := ⟨gb302, _, none⟩) NB291_302.out _).trans (hHeld.2.2.1)))), ((cell_far (p := ⟨gb302, _, none⟩) NB291_302.out _).trans (((cell_far (p := ⟨gb302, _, none⟩) NB291_302.out _).trans (hHeld.2.2.2))))⟩ (fun hHeld => ?_)
     clear hK K
     refine one_ (i := 11) (N := none) #[true, true, true, true, true, true, true, true, true, true, true, true] rfl rfl (one_of HT_.out (by kernel_rfl)) (by decide) (fun K hK => ?_)
     have hs100 : w97.cell? ⟨gb303, 0, none⟩ = some (.int .u64 0) := bc BK303 0; have hfs100 := blk_frozen BK303.out 0; have hns100_0 := NB290_303.out; have hns100_1 := NB291_303.out; have hns100_2 := NB292_303.out; have hns100_3 := NB293_303.out; have hns100_4 := NB302_303.out; have hms100_0 := NB303_290.out; have hms100_1 := NB303_291.out; have hms100_2 := NB303_292.out; have hms100_3 := NB303_293.out; have hms100_4 := NB303_302.out; have hs101 : w97.cell? ⟨gb303, 1, none⟩ = some (.int .u64 0) := bc BK303 1; have hfs101 := blk_frozen BK303.out 1; have hns101_0 := NB290_303.out; have hns101_1 := NB291_303.out; have hns101_2 := NB292_303.out; have hns101_3 := NB293_303.out; have hns101_4 := NB302_303.out; have hms101_0 := NB303_290.out; have hms101_1 := NB303_291.out; have hms101_2 := NB303_292.out; have hms101_3 := NB303_293.out; have hms101_4 := NB303_302.out
     refine skip_ (w1 := ?_) (by rfl) rfl ?_ ?_
     rotate_left
     · go_simp
       rfl
     refine hK.out _ _ ⟨((cell_far (p := ⟨gb303, _, none⟩) NB290_303.out _).trans (((cell_far (p := ⟨gb303, _, none⟩) NB290_303.out _).trans (hHeld.1)))), ((cell_far (p := ⟨gb303, _, none⟩) NB290_303.out _).trans (((cell_far (p := ⟨gb303, _, none⟩) NB290_303.out _).trans (hHeld.2.1)))), ((cell_far (p := ⟨gb303, _, none⟩) NB291_303.out _).trans (((cell_far (p := ⟨gb303, _, none⟩) NB291_303.out _).trans (hHeld.2.2.1)))), ((cell_far (p := ⟨gb303, _, none⟩) NB291_303.out _).trans (((cell_far (p := ⟨gb303, _, none⟩) NB291_303.out _).trans (hHeld.2.2.2))))⟩ (fun hHeld => ?_)
     clear hK K
     refine done_ (done_of HT_.out (by kernel_rfl)) ?_
     have hnb102 := NB302_290.out; have hnc102 := NB290_302.out; have hnb103 := NB302_291.out; have hnc103 := NB291_302.out; have hnb104 := NB302_292.out; have hnc104 := NB292_302.out; have hnb105 := NB302_293.out; have hnc105 := NB293_302.out; have hnb106 := NB302_303.out; have hnc106 := NB303_302.out; have hcz107_0 : w97.cell? ⟨gb302, 0, none⟩ = some (.int .u64 0) := bc BK302 0; have hcz107_1 : w97.cell? ⟨gb302, 1, none⟩ = some (.int .u64 0) := bc BK302 1; have hfz107_0 := blk_frozen BK302.out 0; have hfz107_1 := blk_frozen BK302.out 1; have hnb108 := NB290_292.out; have hnc108 := NB292_290.out; have hnb109 := NB290_293.out; have hnc109 := NB293_290.out; have hnb110 := NB290_303.out; have hnc110 := NB303_290.out; have hcz111_0 : w97.cell? ⟨gb290, 0, none⟩ = some (.int .i64 a0_0) := bc BK290 0; have hcz111_1 : w97.cell? ⟨gb290, 1, none⟩ = some (.int .u64 a0_1) := bc BK290 1; have hfz111_0 := blk_frozen BK290.out 0; have hfz111_1 := blk_frozen BK290.out 1; have hnb112 := NB291_303.out; have hnc112 := NB303_291.out; have hcz113_0 : w97.cell? ⟨gb291, 0, none⟩ = some (.int .i64 a1_0) := bc BK291 0; have hcz113_1 : w97.cell? ⟨gb291, 1, none⟩ = some (.int .u64 a1_1) := bc BK291 1; have hfz113_0 := blk_frozen BK291.out 0; have hfz113_1 := blk_frozen BK291.out 1
     try go_wp2_with (first | ((with_reducible refine gate_callee (f := 72) rfl ?_); refine goesL_ (some 35) rfl rfl Tryd.func72 (by kernel_rfl) rfl #[.agg #[.int .u64 t298, .int .u64 t299], .bool ((decide (a0_0 < 0)) != (decide (a1_0 < 0)))] rfl rf ?_; (with_reducible refine (wide_signed.calls k t298 t299 ((decide (a0_0 < 0)) != (decide (a1_0 < 0))) t304 t305 t306 _ A20.out).mono ?_); rintro e w114 ⟨rfl, hb⟩; refine ⟨_, rfl, ?_⟩; replace BK290 := am (blk_below (g := gb290) (o := .cells #[.int .i64 a0_0, .int .u64 a0_1] 24 (0, 0)) kg hb); replace BK291 := am (blk_below (g := gb291) (o := .cells #[.int .i64 a1_0, .int .u64 a1_1] 24 (0, 0)) kg hb); replace BK292 := am (blk_below (g := gb292) (o := .cells #[.int .i64 0, .int .u64 0] 24 (0, 0)) kg hb); replace BK293 := am (blk_below (g := gb293) (o := .cells #[.int .i64 0, .int .u64 0] 24 (0, 0)) kg hb); replace BK302 := am (blk_below (g := gb302) (o := .cells #[.int .u64 t298, .int .u64 t299] 62 (0, 0)) (blk_far (blk_far (blk_put (blk_put BK302.out 0 _ rfl) 1 _ rfl) NB302_303.out _) NB302_303.out _) hb); replace BK303 := am (blk_below (g := gb303) (o := .cells #[.int .u64 t300, .int .u64 t301] 62 (0, 0)) (blk_put (blk_put (blk_far (blk_far BK303.out NB303_302.out _) NB303_302.out _) 0 _ rfl) 1 _ rfl) hb); replace HB := am (below_step bz hb); (try clear hb); (try clear hb2); (try clear hk); (try clear hi)) | ((with_reducible refine gate_dst (N := 9) rfl ?_); refine box_event (by rfl) (N := 9) (by rfl) (cs := #[.int .i64 0, .int .u64 0]) (t := 24) (by go_simp <;> rfl) ?_; intro gb307 hg w115 hbox hb; have BK307 := am (hbox); have GW307 := gw w hg; replace HB := am (below_step bz hb); have NB290_307 := nl BK290 hg; have NB307_290 := nr BK290 hg; replace BK290 := am (bb BK290 hb); have NB291_307 := nl BK291 hg; have NB307_291 := nr BK291 hg; replace BK291 := am (bb BK291 hb); have NB292_307 := nl BK292 hg; have NB307_292 := nr BK292 hg; replace BK292 := am (bb BK292 hb); have NB293_307 := nl BK293 hg; have NB307_293 := nr BK293 hg; replace BK293 := am (bb BK293 hb); have NB302_307 := nl BK302 hg; have NB307_302 := nr BK302 hg; replace BK302 := am (bb BK302 hb); have NB303_307 := nl BK303 hg; have NB307_303 := nr BK303 hg; replace BK303 := am (bb BK303 hb); clear hb hbox hg; have hnb116 := NB307_290.out; have hnc116 := NB290_307.out; have hnb117 := NB307_291.out; have hnc117 := NB291_307.out; have hnb118 := NB307_292.out; have hnc118 := NB292_307.out; have hnb119 := NB307_293.out; have hnc119 := NB293_307.out; have hnb120 := NB307_302.out; have hnc120 := NB302_307.out; have hnb121 := NB307_303.out; have hnc121 := NB303_307.out; have hcz122_0 : w115.cell? ⟨gb307, 0, none⟩ = some (.int .i64 0) := bc BK307 0; have hcz122_1 : w115.cell? ⟨gb307, 1, none⟩ = some (.int .u64 0) := bc BK307 1; have hfz122_0 := blk_frozen BK307.out 0; have hfz122_1 := blk_frozen BK307.out 1; have hnb123 := NB292_293.out; have hnc123 := NB293_292.out; have hnb124 := NB292_303.out; have hnc124 := NB303_292.out; have hcz125_0 : w115.cell? ⟨gb292, 0, none⟩ = some (.int .i64 0) := bc BK292 0; have hcz125_1 : w115.cell? ⟨gb292, 1, none⟩ = some (.int .u64 0) := bc BK292 1; have hfz125_0 := blk_frozen BK292.out 0; have hfz125_1 := blk_frozen BK292.out 1; have hnb126 := NB293_303.out; have hnc126 := NB303_293.out; have hcz127_0 : w115.cell? ⟨gb293, 0, none⟩ = some (.int .i64 0) := bc BK293 0; have hcz127_1 : w115.cell? ⟨gb293, 1, none⟩ = some (.int .u64 0) := bc BK293 1; have hfz127_0 := blk_frozen BK293.out 0; have hfz127_1 := blk_frozen BK293.out 1))
     refine bodyPost_ret (results_list (rs := [.cell 4 24, .cell 5 24, .tmp 6]) rfl (by simp) (.cell gb292 24 #[.int .i64 0, .int .u64 0] (0, 0) _ rfl (blk_far (blk_far (blk_put (blk_put (blk_far (blk_far BK292.out NB292_307.out _) NB292_307.out _) 0 _ rfl) 1 _ rfl) NB292_293.out _) NB292_293.out _) Tryd.underlying24 rfl (by kernel_rfl) (.cell gb293 24 #[.int .i64 0, .int .u64 0] (0, 0) _ rfl (blk_put (blk_put (blk_far (blk_far (blk_far (blk_far BK293.out NB293_307.out _) NB293_307.out _) NB293_292.out _) NB293_292.out _) 0 _ rfl) 1 _ rfl) Tryd.underlying24 rfl (by kernel_rfl) (.tmp .nil)))) rfl ?_
     exact ⟨rg, bz⟩

end Go.Proofs.YtcfhmbhlibhlnaaDoor.P
