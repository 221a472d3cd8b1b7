-- Printed by this session's own pp.py (wip/tool) out of the translation.
import Derived.Test.YtcfhmbhlibhlnaaDoorPx0
import Derived.Test.YtcfhmbhlibhlnaaDoorPxg0
import Derived.Test.YtcfhmbhlibhlnaaDoorPxf65
import Derived.Test.YtcfhmbhlibhlnaaDoorPxf72
namespace Go.Proofs.YtcfhmbhlibhlnaaDoor.P
open Go.RowKit Go.Proofs.YtcfhmbhlibhlnaaDoorW.PrintWords Go.Proofs.YtcfhmbhlibhlnaaDoorW.PrintLast Go.Proofs.YtcfhmbhlibhlnaaDoorW.PrintMore Go.Proofs.YtcfhmbhlibhlnaaDoor.Mine
attribute [local go_sem] ext71 ext79 eqA61 eqA62
attribute [local go_sem] max2_int min2_int max_two min_two max_three min_three max_four min_four   -- for this text's walks alone
set_option linter.unusedVariables false
set_option linter.unusedSimpArgs false

attribute [local go_sem high] eqA24
/-! ### wide_Quo: function 32 -/
set_option maxHeartbeats 8000000 in
set_option maxRecDepth 100000 in
theorem wide_Quo.calls_a (k : Nat) (a0_0 : Int) (a0_1 : Int) (a1_0 : Int) (a1_1 : Int) (r1 : Int) (r2 : Int) (r3 : Int) (r4 : Int) (r5 : Int) (w : World) (h : wide_Quo.f k a0_0 a0_1 a1_0 a1_1 = some (r1, r2, r3, r4, r5)) (hr : r5 = 0) :
 Calls Tryd.prog 32 #[.agg #[.int .i64 a0_0, .int .u64 a0_1], .agg #[.int .i64 a1_0, .int .u64 a1_1]] w fun e w' => e = .returned (.tuple #[.agg #[.int .i64 r1, .int .u64 r2], .agg #[.int .i64 r3, .int .u64 r4], .int .i64 r5]) ∧ Below w.heap.size w w' := by
 have hu24 := Tryd.underlying24; have hu62 := Tryd.underlying62; have HB := am (Below.refl w.heap.size w); have H : (if (a1_0 == 0 && (a1_1 == 0)) = true then (some (0, 0, 0, 0, 11)) else ((wide_amount.f a0_0 a0_1).bind fun bt294 => ((wide_amount.f a1_0 a1_1).bind fun bt296 => ((wide_divided.f k bt294.1 bt294.2 bt296.1 bt296.2).bind fun bt298 => ((wide_signed.f k bt298.1 bt298.2.1 ((decide (a0_0 < 0)) != (decide (a1_0 < 0)))).bind fun bt304 => (if bt304.2.2 = 0 then ((wide_signed.f k bt298.2.2.1 bt298.2.2.2 (decide (a0_0 < 0))).bind fun bt308 => (some (bt304.1, bt304.2.1, bt308.1, bt308.2.1, 0))) else (some (0, 0, 0, 0, bt304.2.2)))))))) = some (r1, r2, r3, r4, r5) := h; clear h
 by_cases c3 : (a1_0 == 0 && (a1_1 == 0)) = true
 · rw [if_pos c3] at H
   have c3b0 : (a1_0 == 0 && (a1_1 == 0)) = true := c3; (try (have c3b1 : decide (a1_0 = 0 && (a1_1 == 0)) = true := by simpa using c3)); (try (have c3b2 : (a1_0 == 0 && (a1_1 == 0)) = true := by simpa using c3)); clear c3
   simp only [Option.some.injEq, Prod.mk.injEq] at H
   obtain ⟨rfl, rfl, rfl, rfl, rfl⟩ := H
   exact absurd hr (by decide)
 · rw [if_neg c3] at H
   have c3b0 : (a1_0 == 0 && (a1_1 == 0)) = false := by simpa using c3
   (try (have c3b1 : decide (a1_0 = 0 && (a1_1 == 0)) = false := by simpa using c3)); (try (have c3b2 : (a1_0 == 0 && (a1_1 == 0)) = false := by simpa using c3)); (try (have c3b3 : ¬ (a1_0 = 0 && (a1_1 == 0)) := by simpa using c3)); clear c3
   replace H := Option.bind_eq_some_iff.mp H
   obtain ⟨⟨t294, t295⟩, A170, H⟩ := H
   replace H : ((wide_amount.f a1_0 a1_1).bind fun bt296 => ((wide_divided.f k t294 t295 bt296.1 bt296.2).bind fun bt298 => ((wide_signed.f k bt298.1 bt298.2.1 ((decide (a0_0 < 0)) != (decide (a1_0 < 0)))).bind fun bt304 => (if bt304.2.2 = 0 then ((wide_signed.f k bt298.2.2.1 bt298.2.2.2 (decide (a0_0 < 0))).bind fun bt308 => (some (bt304.1, bt304.2.1, bt308.1, bt308.2.1, 0))) else (some (0, 0, 0, 0, bt304.2.2)))))) = some (r1, r2, r3, r4, r5) := H
   have A17 := Aside0.mk A170; clear A170
   replace H := Option.bind_eq_some_iff.mp H
   obtain ⟨⟨t296, t297⟩, A180, H⟩ := H
   replace H : ((wide_divided.f k t294 t295 t296 t297).bind fun bt298 => ((wide_signed.f k bt298.1 bt298.2.1 ((decide (a0_0 < 0)) != (decide (a1_0 < 0)))).bind fun bt304 => (if bt304.2.2 = 0 then ((wide_signed.f k bt298.2.2.1 bt298.2.2.2 (decide (a0_0 < 0))).bind fun bt308 => (some (bt304.1, bt304.2.1, bt308.1, bt308.2.1, 0))) else (some (0, 0, 0, 0, bt304.2.2))))) = some (r1, r2, r3, r4, r5) := H
   have A18 := Aside0.mk A180; clear A180
   replace H := Option.bind_eq_some_iff.mp H
   obtain ⟨⟨t298, t299, t300, t301⟩, A190, H⟩ := H
   replace H : ((wide_signed.f k t298 t299 ((decide (a0_0 < 0)) != (decide (a1_0 < 0)))).bind fun bt304 => (if bt304.2.2 = 0 then ((wide_signed.f k t300 t301 (decide (a0_0 < 0))).bind fun bt308 => (some (bt304.1, bt304.2.1, bt308.1, bt308.2.1, 0))) else (some (0, 0, 0, 0, bt304.2.2)))) = some (r1, r2, r3, r4, r5) := H
   have A19 := Aside0.mk A190; clear A190
   replace H := Option.bind_eq_some_iff.mp H
   obtain ⟨⟨t304, t305, t306⟩, A200, H⟩ := H
   replace H : (if t306 = 0 then ((wide_signed.f k t300 t301 (decide (a0_0 < 0))).bind fun bt308 => (some (t304, t305, bt308.1, bt308.2.1, 0))) else (some (0, 0, 0, 0, t306))) = some (r1, r2, r3, r4, r5) := H
   have A20 := Aside0.mk A200; clear A200
   by_cases c21 : t306 = 0
   · rw [if_pos c21] at H
     have c21b0 : (t306 == 0) = true := beq_iff_eq.mpr c21; have c21b1 : (t306 != 0) = false := bne_eq_false_iff_eq.mpr c21; clear c21
     replace H := Option.bind_eq_some_iff.mp H
     obtain ⟨⟨t308, t309, t310⟩, A220, H⟩ := H
     replace H : (some (t304, t305, t308, t309, 0)) = some (r1, r2, r3, r4, r5) := H
     have A22 := Aside0.mk A220; clear A220
     simp only [Option.some.injEq, Prod.mk.injEq] at H
     obtain ⟨rfl, rfl, rfl, rfl, rfl⟩ := H
     go_enter Tryd.func32, Tryd.ntmps32
     try go_wp2_with (first | ((with_reducible refine gate_dst (N := 2) rfl ?_); refine box_event (by rfl) (N := 2) (by rfl) (cs := #[.int .i64 a0_0, .int .u64 a0_1]) (t := 24) (by go_simp <;> rfl) ?_; intro gb290 hg w23 hbox hb; have BK290 := am (hbox); have GW290 := gw w hg; replace HB := am (below_step bz hb); clear hb hbox hg) | ((with_reducible refine gate_dst (N := 3) rfl ?_); refine box_event (by rfl) (N := 3) (by rfl) (cs := #[.int .i64 a1_0, .int .u64 a1_1]) (t := 24) (by go_simp <;> rfl) ?_; intro gb291 hg w24 hbox hb; have BK291 := am (hbox); have GW291 := gw w hg; replace HB := am (below_step bz hb); have NB290_291 := nl BK290 hg; have NB291_290 := nr BK290 hg; replace BK290 := am (bb BK290 hb); clear hb hbox hg) | ((with_reducible refine gate_dst (N := 4) rfl ?_); refine box_event (by rfl) (N := 4) (by rfl) (cs := #[.int .i64 0, .int .u64 0]) (t := 24) (by go_simp <;> rfl) ?_; intro gb292 hg w25 hbox hb; have BK292 := am (hbox); have GW292 := gw w hg; replace HB := am (below_step bz hb); have NB290_292 := nl BK290 hg; have NB292_290 := nr BK290 hg; replace BK290 := am (bb BK290 hb); have NB291_292 := nl BK291 hg; have NB292_291 := nr BK291 hg; replace BK291 := am (bb BK291 hb); clear hb hbox hg) | ((with_reducible refine gate_dst (N := 5) rfl ?_); refine box_event (by rfl) (N := 5) (by rfl) (cs := #[.int .i64 0, .int .u64 0]) (t := 24) (by go_simp <;> rfl) ?_; intro gb293 hg w26 hbox hb; have BK293 := am (hbox); have GW293 := gw w hg; replace HB := am (below_step bz hb); have NB290_293 := nl BK290 hg; have NB293_290 := nr BK290 hg; replace BK290 := am (bb BK290 hb); have NB291_293 := nl BK291 hg; have NB293_291 := nr BK291 hg; replace BK291 := am (bb BK291 hb); have NB292_293 := nl BK292 hg; have NB293_292 := nr BK292 hg; replace BK292 := am (bb BK292 hb); clear hb hbox hg; have hnb27 := NB291_290.out; have hnc27 := NB290_291.out; have hnb28 := NB291_292.out; have hnc28 := NB292_291.out; have hnb29 := NB291_293.out; have hnc29 := NB293_291.out; have hcz30_0 : w26.cell? ⟨gb291, 0, none⟩ = some (.int .i64 a1_0) := bc BK291 0; have hcz30_1 : w26.cell? ⟨gb291, 1, none⟩ = some (.int .u64 a1_1) := bc BK291 1; have hfz30_0 := blk_frozen BK291.out 0; have hfz30_1 := blk_frozen BK291.out 1))
     replace BK290 := am (blk_drew BK290.out); replace BK291 := am (blk_drew BK291.out); replace BK292 := am (blk_drew BK292.out); replace BK293 := am (blk_drew BK293.out); replace HB := am (below_drew1 HB.out)
     refine start_ (n := 12) (S := fun w' => w'.cell? ⟨gb290, 0, none⟩ = some (.int .i64 a0_0) ∧ w'.cell? ⟨gb290, 1, none⟩ = some (.int .u64 a0_1) ∧ w'.cell? ⟨gb291, 0, none⟩ = some (.int .i64 a1_0) ∧ w'.cell? ⟨gb291, 1, none⟩ = some (.int .u64 a1_1)) (ds := []) #[false, false, false, false, false, false, false, false, false, false, false, false] (by kernel_rfl) rfl rfl ⟨bc BK290 0, bc BK290 1, bc BK291 0, bc BK291 1⟩ (fun hHeld => ?_); refine with_tabW wide_Quo.tab3 wide_Quo.bits3 (fun HT_ HW_ => ?_)
     generalize w26.drew = w31 at BK290 BK291 BK292 BK293 HB hHeld ⊢
     refine take_ (i := 0) (N := some 19) (v := ?_) (a' := ?_) #[true, false, false, false, false, false, false, false, false, false, false, false] rfl rfl (take_ofW HT_.out HW_.out (by kernel_rfl)) (fun _ _ _ h => h) (Or.inl ⟨by rfl, ?_⟩) hHeld ?_ ?_
     rotate_left
     · rintro w' ⟨s0, s1, s2, s3⟩
       go_simp
       with_reducible rfl
     rotate_left
     · simp only [Act.put, List.setIfInBounds_toArray, List.set_cons_zero, List.set_cons_succ, i64_w, i32_w]
       rfl
     refine take_ (i := 2) (N := some 21) (v := ?_) (a' := ?_) #[true, false, true, false, false, false, false, false, false, false, false, false] rfl rfl (take_ofW HT_.out HW_.out (by kernel_rfl)) (fun _ _ _ h => h) (Or.inl ⟨by rfl, ?_⟩) hHeld ?_ ?_
     rotate_left
     · rintro w' ⟨s0, s1, s2, s3⟩
       go_simp
       with_reducible rfl
     rotate_left
     · simp only [Act.put, List.setIfInBounds_toArray, List.set_cons_zero, List.set_cons_succ, i64_w, i32_w]
       rfl
     refine join_ (σ := Nat × Nat) 2 #[true, true, true, true, true, true, true, true, true, true, false, false] (fun s_ => [(20, .agg #[.int .u64 t294, .int .u64 t295]), (22, .agg #[.int .u64 t296, .int .u64 t297]), (23, .tuple #[.agg #[.int .u64 t298, .int .u64 t299], .agg #[.int .u64 t300, .int .u64 t301]]), (7, .pointer (some ⟨s_.1, 0, none⟩)), (8, .pointer (some ⟨s_.2, 0, none⟩)), (18, .tuple #[.agg #[.int .u64 t298, .int .u64 t299], .agg #[.int .u64 t300, .int .u64 t301]]), (24, .agg #[.int .u64 t298, .int .u64 t299]), (25, .agg #[.int .u64 t300, .int .u64 t301])]) (fun s_ w' => (w'.cell? ⟨gb290, 0, none⟩ = some (.int .i64 a0_0) ∧ w'.cell? ⟨gb290, 1, none⟩ = some (.int .u64 a0_1) ∧ w'.cell? ⟨gb291, 0, none⟩ = some (.int .i64 a1_0) ∧ w'.cell? ⟨gb291, 1, none⟩ = some (.int .u64 a1_1)) ∧ (w'.heap[gb290]? = some (.cells #[.int .i64 a0_0, .int .u64 a0_1] 24 (0, 0))) ∧ (w'.heap[gb291]? = some (.cells #[.int .i64 a1_0, .int .u64 a1_1] 24 (0, 0))) ∧ (w'.heap[gb292]? = some (.cells #[.int .i64 0, .int .u64 0] 24 (0, 0))) ∧ (w'.heap[gb293]? = some (.cells #[.int .i64 0, .int .u64 0] 24 (0, 0))) ∧ (w'.heap[s_.1]? = some (.cells #[.int .u64 0, .int .u64 0] 62 (0, 0))) ∧ (w'.heap[s_.2]? = some (.cells #[.int .u64 0, .int .u64 0] 62 (0, 0))) ∧ (w.heap.size ≤ s_.1) ∧ (gb290 ≠ s_.1) ∧ (s_.1 ≠ gb290) ∧ (gb291 ≠ s_.1) ∧ (s_.1 ≠ gb291) ∧ (gb292 ≠ s_.1) ∧ (s_.1 ≠ gb292) ∧ (gb293 ≠ s_.1) ∧ (s_.1 ≠ gb293) ∧ (s_.2 ≠ s_.1) ∧ (s_.1 ≠ s_.2) ∧ (w.heap.size ≤ s_.2) ∧ (gb290 ≠ s_.2) ∧ (s_.2 ≠ gb290) ∧ (gb291 ≠ s_.2) ∧ (s_.2 ≠ gb291) ∧ (gb292 ≠ s_.2) ∧ (s_.2 ≠ gb292) ∧ (gb293 ≠ s_.2) ∧ (s_.2 ≠ gb293) ∧ (Below w.heap.size w w')) ?_ ?_
     rotate_left
     · intro hJ1_3_4_8_9
       refine join_ (σ := Nat) 3 #[true, true, true, true, true, true, true, true, true, false, false, false] (fun s_ => [(20, .agg #[.int .u64 t294, .int .u64 t295]), (22, .agg #[.int .u64 t296, .int .u64 t297]), (23, .tuple #[.agg #[.int .u64 t298, .int .u64 t299], .agg #[.int .u64 t300, .int .u64 t301]]), (7, .pointer (some ⟨s_, 0, none⟩)), (18, .tuple #[.agg #[.int .u64 t298, .int .u64 t299], .agg #[.int .u64 t300, .int .u64 t301]]), (24, .agg #[.int .u64 t298, .int .u64 t299]), (25, .agg #[.int .u64 t300, .int .u64 t301])]) (fun s_ w' => (w'.cell? ⟨gb290, 0, none⟩ = some (.int .i64 a0_0) ∧ w'.cell? ⟨gb290, 1, none⟩ = some (.int .u64 a0_1) ∧ w'.cell? ⟨gb291, 0, none⟩ = some (.int .i64 a1_0) ∧ w'.cell? ⟨gb291, 1, none⟩ = some (.int .u64 a1_1)) ∧ (w'.heap[gb290]? = some (.cells #[.int .i64 a0_0, .int .u64 a0_1] 24 (0, 0))) ∧ (w'.heap[gb291]? = some (.cells #[.int .i64 a1_0, .int .u64 a1_1] 24 (0, 0))) ∧ (w'.heap[gb292]? = some (.cells #[.int .i64 0, .int .u64 0] 24 (0, 0))) ∧ (w'.heap[gb293]? = some (.cells #[.int .i64 0, .int .u64 0] 24 (0, 0))) ∧ (w'.heap[s_]? = some (.cells #[.int .u64 0, .int .u64 0] 62 (0, 0))) ∧ (w.heap.size ≤ s_) ∧ (gb290 ≠ s_) ∧ (s_ ≠ gb290) ∧ (gb291 ≠ s_) ∧ (s_ ≠ gb291) ∧ (gb292 ≠ s_) ∧ (s_ ≠ gb292) ∧ (gb293 ≠ s_) ∧ (s_ ≠ gb293) ∧ (Below w.heap.size w w')) ?_ ?_
       rotate_left
       · intro hJ1_3_4_8
         refine join_ (σ := Nat) 3 #[true, true, true, true, true, true, true, true, false, true, false, false] (fun s_ => [(20, .agg #[.int .u64 t294, .int .u64 t295]), (22, .agg #[.int .u64 t296, .int .u64 t297]), (23, .tuple #[.agg #[.int .u64 t298, .int .u64 t299], .agg #[.int .u64 t300, .int .u64 t301]]), (8, .pointer (some ⟨s_, 0, none⟩)), (18, .tuple #[.agg #[.int .u64 t298, .int .u64 t299], .agg #[.int .u64 t300, .int .u64 t301]]), (24, .agg #[.int .u64 t298, .int .u64 t299]), (25, .agg #[.int .u64 t300, .int .u64 t301])]) (fun s_ w' => (w'.cell? ⟨gb290, 0, none⟩ = some (.int .i64 a0_0) ∧ w'.cell? ⟨gb290, 1, none⟩ = some (.int .u64 a0_1) ∧ w'.cell? ⟨gb291, 0, none⟩ = some (.int .i64 a1_0) ∧ w'.cell? ⟨gb291, 1, none⟩ = some (.int .u64 a1_1)) ∧ (w'.heap[gb290]? = some (.cells #[.int .i64 a0_0, .int .u64 a0_1] 24 (0, 0))) ∧ (w'.heap[gb291]? = some (.cells #[.int .i64 a1_0, .int .u64 a1_1] 24 (0, 0))) ∧ (w'.heap[gb292]? = some (.cells #[.int .i64 0, .int .u64 0] 24 (0, 0))) ∧ (w'.heap[gb293]? = some (.cells #[.int .i64 0, .int .u64 0] 24 (0, 0))) ∧ (w'.heap[s_]? = some (.cells #[.int .u64 0, .int .u64 0] 62 (0, 0))) ∧ (w.heap.size ≤ s_) ∧ (gb290 ≠ s_) ∧ (s_ ≠ gb290) ∧ (gb291 ≠ s_) ∧ (s_ ≠ gb291) ∧ (gb292 ≠ s_) ∧ (s_ ≠ gb292) ∧ (gb293 ≠ s_) ∧ (s_ ≠ gb293) ∧ (Below w.heap.size w w')) ?_ ?_
         rotate_left
         · intro hJ1_3_4_9
           refine join_ (σ := Nat × Nat) 6 #[true, true, true, true, false, false, false, false, true, true, false, false] (fun s_ => [(20, .agg #[.int .u64 t294, .int .u64 t295]), (22, .agg #[.int .u64 t296, .int .u64 t297]), (7, .pointer (some ⟨s_.1, 0, none⟩)), (8, .pointer (some ⟨s_.2, 0, none⟩))]) (fun s_ w' => (w'.cell? ⟨gb290, 0, none⟩ = some (.int .i64 a0_0) ∧ w'.cell? ⟨gb290, 1, none⟩ = some (.int .u64 a0_1) ∧ w'.cell? ⟨gb291, 0, none⟩ = some (.int .i64 a1_0) ∧ w'.cell? ⟨gb291, 1, none⟩ = some (.int .u64 a1_1)) ∧ (w'.heap[gb290]? = some (.cells #[.int .i64 a0_0, .int .u64 a0_1] 24 (0, 0))) ∧ (w'.heap[gb291]? = some (.cells #[.int .i64 a1_0, .int .u64 a1_1] 24 (0, 0))) ∧ (w'.heap[gb292]? = some (.cells #[.int .i64 0, .int .u64 0] 24 (0, 0))) ∧ (w'.heap[gb293]? = some (.cells #[.int .i64 0, .int .u64 0] 24 (0, 0))) ∧ (w'.heap[s_.1]? = some (.cells #[.int .u64 0, .int .u64 0] 62 (0, 0))) ∧ (w'.heap[s_.2]? = some (.cells #[.int .u64 0, .int .u64 0] 62 (0, 0))) ∧ (w.heap.size ≤ s_.1) ∧ (gb290 ≠ s_.1) ∧ (s_.1 ≠ gb290) ∧ (gb291 ≠ s_.1) ∧ (s_.1 ≠ gb291) ∧ (gb292 ≠ s_.1) ∧ (s_.1 ≠ gb292) ∧ (gb293 ≠ s_.1) ∧ (s_.1 ≠ gb293) ∧ (s_.2 ≠ s_.1) ∧ (s_.1 ≠ s_.2) ∧ (w.heap.size ≤ s_.2) ∧ (gb290 ≠ s_.2) ∧ (s_.2 ≠ gb290) ∧ (gb291 ≠ s_.2) ∧ (s_.2 ≠ gb291) ∧ (gb292 ≠ s_.2) ∧ (s_.2 ≠ gb292) ∧ (gb293 ≠ s_.2) ∧ (s_.2 ≠ gb293) ∧ (Below w.heap.size w w')) ?_ ?_
           rotate_left
           · intro hJ1_3_8_9
             refine join_ (σ := Unit) 4 #[true, true, true, true, true, true, true, true, false, false, false, false] (fun s_ => [(20, .agg #[.int .u64 t294, .int .u64 t295]), (22, .agg #[.int .u64 t296, .int .u64 t297]), (23, .tuple #[.agg #[.int .u64 t298, .int .u64 t299], .agg #[.int .u64 t300, .int .u64 t301]]), (18, .tuple #[.agg #[.int .u64 t298, .int .u64 t299], .agg #[.int .u64 t300, .int .u64 t301]]), (24, .agg #[.int .u64 t298, .int .u64 t299]), (25, .agg #[.int .u64 t300, .int .u64 t301])]) (fun s_ w' => (w'.cell? ⟨gb290, 0, none⟩ = some (.int .i64 a0_0) ∧ w'.cell? ⟨gb290, 1, none⟩ = some (.int .u64 a0_1) ∧ w'.cell? ⟨gb291, 0, none⟩ = some (.int .i64 a1_0) ∧ w'.cell? ⟨gb291, 1, none⟩ = some (.int .u64 a1_1)) ∧ (w'.heap[gb290]? = some (.cells #[.int .i64 a0_0, .int .u64 a0_1] 24 (0, 0))) ∧ (w'.heap[gb291]? = some (.cells #[.int .i64 a1_0, .int .u64 a1_1] 24 (0, 0))) ∧ (w'.heap[gb292]? = some (.cells #[.int .i64 0, .int .u64 0] 24 (0, 0))) ∧ (w'.heap[gb293]? = some (.cells #[.int .i64 0, .int .u64 0] 24 (0, 0))) ∧ (Below w.heap.size w w')) ?_ ?_
             rotate_left
             · intro hJ1_3_4
               refine join_ (σ := Nat) 7 #[true, true, true, true, false, false, false, false, true, false, false, false] (fun s_ => [(20, .agg #[.int .u64 t294, .int .u64 t295]), (22, .agg #[.int .u64 t296, .int .u64 t297]), (7, .pointer (some ⟨s_, 0, none⟩))]) (fun s_ w' => (w'.cell? ⟨gb290, 0, none⟩ = some (.int .i64 a0_0) ∧ w'.cell? ⟨gb290, 1, none⟩ = some (.int .u64 a0_1) ∧ w'.cell? ⟨gb291, 0, none⟩ = some (.int .i64 a1_0) ∧ w'.cell? ⟨gb291, 1, none⟩ = some (.int .u64 a1_1)) ∧ (w'.heap[gb290]? = some (.cells #[.int .i64 a0_0, .int .u64 a0_1] 24 (0, 0))) ∧ (w'.heap[gb291]? = some (.cells #[.int .i64 a1_0, .int .u64 a1_1] 24 (0, 0))) ∧ (w'.heap[gb292]? = some (.cells #[.int .i64 0, .int .u64 0] 24 (0, 0))) ∧ (w'.heap[gb293]? = some (.cells #[.int .i64 0, .int .u64 0] 24 (0, 0))) ∧ (w'.heap[s_]? = some (.cells #[.int .u64 0, .int .u64 0] 62 (0, 0))) ∧ (w.heap.size ≤ s_) ∧ (gb290 ≠ s_) ∧ (s_ ≠ gb290) ∧ (gb291 ≠ s_) ∧ (s_ ≠ gb291) ∧ (gb292 ≠ s_) ∧ (s_ ≠ gb292) ∧ (gb293 ≠ s_) ∧ (s_ ≠ gb293) ∧ (Below w.heap.size w w')) ?_ ?_
               rotate_left
               · intro hJ1_3_8
                 refine join_ (σ := Nat) 7 #[true, true, true, true, false, false, false, false, false, true, false, false] (fun s_ => [(20, .agg #[.int .u64 t294, .int .u64 t295]), (22, .agg #[.int .u64 t296, .int .u64 t297]), (8, .pointer (some ⟨s_, 0, none⟩))]) (fun s_ w' => (w'.cell? ⟨gb290, 0, none⟩ = some (.int .i64 a0_0) ∧ w'.cell? ⟨gb290, 1, none⟩ = some (.int .u64 a0_1) ∧ w'.cell? ⟨gb291, 0, none⟩ = some (.int .i64 a1_0) ∧ w'.cell? ⟨gb291, 1, none⟩ = some (.int .u64 a1_1)) ∧ (w'.heap[gb290]? = some (.cells #[.int .i64 a0_0, .int .u64 a0_1] 24 (0, 0))) ∧ (w'.heap[gb291]? = some (.cells #[.int .i64 a1_0, .int .u64 a1_1] 24 (0, 0))) ∧ (w'.heap[gb292]? = some (.cells #[.int .i64 0, .int .u64 0] 24 (0, 0))) ∧ (w'.heap[gb293]? = some (.cells #[.int .i64 0, .int .u64 0] 24 (0, 0))) ∧ (w'.heap[s_]? = some (.cells #[.int .u64 0, .int .u64 0] 62 (0, 0))) ∧ (w.heap.size ≤ s_) ∧ (gb290 ≠ s_) ∧ (s_ ≠ gb290) ∧ (gb291 ≠ s_) ∧ (s_ ≠ gb291) ∧ (gb292 ≠ s_) ∧ (s_ ≠ gb292) ∧ (gb293 ≠ s_) ∧ (s_ ≠ gb293) ∧ (Below w.heap.size w w')) ?_ ?_
                 rotate_left
                 · intro hJ1_3_9
                   refine join_ (σ := Nat × Nat) 7 #[true, true, true, false, false, false, false, false, true, true, false, false] (fun s_ => [(20, .agg #[.int .u64 t294, .int .u64 t295]), (7, .pointer (some ⟨s_.1, 0, none⟩)), (8, .pointer (some ⟨s_.2, 0, none⟩))]) (fun s_ w' => (w'.cell? ⟨gb290, 0, none⟩ = some (.int .i64 a0_0) ∧ w'.cell? ⟨gb290, 1, none⟩ = some (.int .u64 a0_1) ∧ w'.cell? ⟨gb291, 0, none⟩ = some (.int .i64 a1_0) ∧ w'.cell? ⟨gb291, 1, none⟩ = some (.int .u64 a1_1)) ∧ (w'.heap[gb290]? = some (.cells #[.int .i64 a0_0, .int .u64 a0_1] 24 (0, 0))) ∧ (w'.heap[gb291]? = some (.cells #[.int .i64 a1_0, .int .u64 a1_1] 24 (0, 0))) ∧ (w'.heap[gb292]? = some (.cells #[.int .i64 0, .int .u64 0] 24 (0, 0))) ∧ (w'.heap[gb293]? = some (.cells #[.int .i64 0, .int .u64 0] 24 (0, 0))) ∧ (w'.heap[s_.1]? = some (.cells #[.int .u64 0, .int .u64 0] 62 (0, 0))) ∧ (w'.heap[s_.2]? = some (.cells #[.int .u64 0, .int .u64 0] 62 (0, 0))) ∧ (w.heap.size ≤ s_.1) ∧ (gb290 ≠ s_.1) ∧ (s_.1 ≠ gb290) ∧ (gb291 ≠ s_.1) ∧ (s_.1 ≠ gb291) ∧ (gb292 ≠ s_.1) ∧ (s_.1 ≠ gb292) ∧ (gb293 ≠ s_.1) ∧ (s_.1 ≠ gb293) ∧ (s_.2 ≠ s_.1) ∧ (s_.1 ≠ s_.2) ∧ (w.heap.size ≤ s_.2) ∧ (gb290 ≠ s_.2) ∧ (s_.2 ≠ gb290) ∧ (gb291 ≠ s_.2) ∧ (s_.2 ≠ gb291) ∧ (gb292 ≠ s_.2) ∧ (s_.2 ≠ gb292) ∧ (gb293 ≠ s_.2) ∧ (s_.2 ≠ gb293) ∧ (Below w.heap.size w w')) ?_ ?_
                   rotate_left
                   · intro hJ1_8_9
                     refine join_ (σ := Unit) 8 #[true, true, true, true, false, false, false, false, false, false, false, false] (fun s_ => [(20, .agg #[.int .u64 t294, .int .u64 t295]), (22, .agg #[.int .u64 t296, .int .u64 t297])]) (fun s_ w' => (w'.cell? ⟨gb290, 0, none⟩ = some (.int .i64 a0_0) ∧ w'.cell? ⟨gb290, 1, none⟩ = some (.int .u64 a0_1) ∧ w'.cell? ⟨gb291, 0, none⟩ = some (.int .i64 a1_0) ∧ w'.cell? ⟨gb291, 1, none⟩ = some (.int .u64 a1_1)) ∧ (w'.heap[gb290]? = some (.cells #[.int .i64 a0_0, .int .u64 a0_1] 24 (0, 0))) ∧ (w'.heap[gb291]? = some (.cells #[.int .i64 a1_0, .int .u64 a1_1] 24 (0, 0))) ∧ (w'.heap[gb292]? = some (.cells #[.int .i64 0, .int .u64 0] 24 (0, 0))) ∧ (w'.heap[gb293]? = some (.cells #[.int .i64 0, .int .u64 0] 24 (0, 0))) ∧ (Below w.heap.size w w')) ?_ ?_
                     rotate_left
                     · intro hJ1_3
                       refine join_ (σ := Nat) 8 #[true, true, true, false, false, false, false, false, true, false, false, false] (fun s_ => [(20, .agg #[.int .u64 t294, .int .u64 t295]), (7, .pointer (some ⟨s_, 0, none⟩))]) (fun s_ w' => (w'.cell? ⟨gb290, 0, none⟩ = some (.int .i64 a0_0) ∧ w'.cell? ⟨gb290, 1, none⟩ = some (.int .u64 a0_1) ∧ w'.cell? ⟨gb291, 0, none⟩ = some (.int .i64 a1_0) ∧ w'.cell? ⟨gb291, 1, none⟩ = some (.int .u64 a1_1)) ∧ (w'.heap[gb290]? = some (.cells #[.int .i64 a0_0, .int .u64 a0_1] 24 (0, 0))) ∧ (w'.heap[gb291]? = some (.cells #[.int .i64 a1_0, .int .u64 a1_1] 24 (0, 0))) ∧ (w'.heap[gb292]? = some (.cells #[.int .i64 0, .int .u64 0] 24 (0, 0))) ∧ (w'.heap[gb293]? = some (.cells #[.int .i64 0, .int .u64 0] 24 (0, 0))) ∧ (w'.heap[s_]? = some (.cells #[.int .u64 0, .int .u64 0] 62 (0, 0))) ∧ (w.heap.size ≤ s_) ∧ (gb290 ≠ s_) ∧ (s_ ≠ gb290) ∧ (gb291 ≠ s_) ∧ (s_ ≠ gb291) ∧ (gb292 ≠ s_) ∧ (s_ ≠ gb292) ∧ (gb293 ≠ s_) ∧ (s_ ≠ gb293) ∧ (Below w.heap.size w w')) ?_ ?_
                       rotate_left
                       · intro hJ1_8
                         refine join_ (σ := Nat) 8 #[true, true, true, false, false, false, false, false, false, true, false, false] (fun s_ => [(20, .agg #[.int .u64 t294, .int .u64 t295]), (8, .pointer (some ⟨s_, 0, none⟩))]) (fun s_ w' => (w'.cell? ⟨gb290, 0, none⟩ = some (.int .i64 a0_0) ∧ w'.cell? ⟨gb290, 1, none⟩ = some (.int .u64 a0_1) ∧ w'.cell? ⟨gb291, 0, none⟩ = some (.int .i64 a1_0) ∧ w'.cell? ⟨gb291, 1, none⟩ = some (.int .u64 a1_1)) ∧ (w'.heap[gb290]? = some (.cells #[.int .i64 a0_0, .int .u64 a0_1] 24 (0, 0))) ∧ (w'.heap[gb291]? = some (.cells #[.int .i64 a1_0, .int .u64 a1_1] 24 (0, 0))) ∧ (w'.heap[gb292]? = some (.cells #[.int .i64 0, .int .u64 0] 24 (0, 0))) ∧ (w'.heap[gb293]? = some (.cells #[.int .i64 0, .int .u64 0] 24 (0, 0))) ∧ (w'.heap[s_]? = some (.cells #[.int .u64 0, .int .u64 0] 62 (0, 0))) ∧ (w.heap.size ≤ s_) ∧ (gb290 ≠ s_) ∧ (s_ ≠ gb290) ∧ (gb291 ≠ s_) ∧ (s_ ≠ gb291) ∧ (gb292 ≠ s_) ∧ (s_ ≠ gb292) ∧ (gb293 ≠ s_) ∧ (s_ ≠ gb293) ∧ (Below w.heap.size w w')) ?_ ?_
                         rotate_left
                         · intro hJ1_9
                           refine join_ (σ := Nat × Nat) 8 #[true, false, true, false, false, false, false, false, true, true, false, false] (fun s_ => [(7, .pointer (some ⟨s_.1, 0, none⟩)), (8, .pointer (some ⟨s_.2, 0, none⟩))]) (fun s_ w' => (w'.cell? ⟨gb290, 0, none⟩ = some (.int .i64 a0_0) ∧ w'.cell? ⟨gb290, 1, none⟩ = some (.int .u64 a0_1) ∧ w'.cell? ⟨gb291, 0, none⟩ = some (.int .i64 a1_0) ∧ w'.cell? ⟨gb291, 1, none⟩ = some (.int .u64 a1_1)) ∧ (w'.heap[gb290]? = some (.cells #[.int .i64 a0_0, .int .u64 a0_1] 24 (0, 0))) ∧ (w'.heap[gb291]? = some (.cells #[.int .i64 a1_0, .int .u64 a1_1] 24 (0, 0))) ∧ (w'.heap[gb292]? = some (.cells #[.int .i64 0, .int .u64 0] 24 (0, 0))) ∧ (w'.heap[gb293]? = some (.cells #[.int .i64 0, .int .u64 0] 24 (0, 0))) ∧ (w'.heap[s_.1]? = some (.cells #[.int .u64 0, .int .u64 0] 62 (0, 0))) ∧ (w'.heap[s_.2]? = some (.cells #[.int .u64 0, .int .u64 0] 62 (0, 0))) ∧ (w.heap.size ≤ s_.1) ∧ (gb290 ≠ s_.1) ∧ (s_.1 ≠ gb290) ∧ (gb291 ≠ s_.1) ∧ (s_.1 ≠ gb291) ∧ (gb292 ≠ s_.1) ∧ (s_.1 ≠ gb292) ∧ (gb293 ≠ s_.1) ∧ (s_.1 ≠ gb293) ∧ (s_.2 ≠ s_.1) ∧ (s_.1 ≠ s_.2) ∧ (w.heap.size ≤ s_.2) ∧ (gb290 ≠ s_.2) ∧ (s_.2 ≠ gb290) ∧ (gb291 ≠ s_.2) ∧ (s_.2 ≠ gb291) ∧ (gb292 ≠ s_.2) ∧ (s_.2 ≠ gb292) ∧ (gb293 ≠ s_.2) ∧ (s_.2 ≠ gb293) ∧ (Below w.heap.size w w')) ?_ ?_
                           rotate_left
                           · intro hJ8_9
                             refine join_ (σ := Unit) 9 #[true, true, true, false, false, false, false, false, false, false, false, false] (fun s_ => [(20, .agg #[.int .u64 t294, .int .u64 t295])]) (fun s_ w' => (w'.cell? ⟨gb290, 0, none⟩ = some (.int .i64 a0_0) ∧ w'.cell? ⟨gb290, 1, none⟩ = some (.int .u64 a0_1) ∧ w'.cell? ⟨gb291, 0, none⟩ = some (.int .i64 a1_0) ∧ w'.cell? ⟨gb291, 1, none⟩ = some (.int .u64 a1_1)) ∧ (w'.heap[gb290]? = some (.cells #[.int .i64 a0_0, .int .u64 a0_1] 24 (0, 0))) ∧ (w'.heap[gb291]? = some (.cells #[.int .i64 a1_0, .int .u64 a1_1] 24 (0, 0))) ∧ (w'.heap[gb292]? = some (.cells #[.int .i64 0, .int .u64 0] 24 (0, 0))) ∧ (w'.heap[gb293]? = some (.cells #[.int .i64 0, .int .u64 0] 24 (0, 0))) ∧ (Below w.heap.size w w')) ?_ ?_
                             rotate_left
                             · intro hJ1
                               refine join_ (σ := Nat) 9 #[true, false, true, false, false, false, false, false, true, false, false, false] (fun s_ => [(7, .pointer (some ⟨s_, 0, none⟩))]) (fun s_ w' => (w'.cell? ⟨gb290, 0, none⟩ = some (.int .i64 a0_0) ∧ w'.cell? ⟨gb290, 1, none⟩ = some (.int .u64 a0_1) ∧ w'.cell? ⟨gb291, 0, none⟩ = some (.int .i64 a1_0) ∧ w'.cell? ⟨gb291, 1, none⟩ = some (.int .u64 a1_1)) ∧ (w'.heap[gb290]? = some (.cells #[.int .i64 a0_0, .int .u64 a0_1] 24 (0, 0))) ∧ (w'.heap[gb291]? = some (.cells #[.int .i64 a1_0, .int .u64 a1_1] 24 (0, 0))) ∧ (w'.heap[gb292]? = some (.cells #[.int .i64 0, .int .u64 0] 24 (0, 0))) ∧ (w'.heap[gb293]? = some (.cells #[.int .i64 0, .int .u64 0] 24 (0, 0))) ∧ (w'.heap[s_]? = some (.cells #[.int .u64 0, .int .u64 0] 62 (0, 0))) ∧ (w.heap.size ≤ s_) ∧ (gb290 ≠ s_) ∧ (s_ ≠ gb290) ∧ (gb291 ≠ s_) ∧ (s_ ≠ gb291) ∧ (gb292 ≠ s_) ∧ (s_ ≠ gb292) ∧ (gb293 ≠ s_) ∧ (s_ ≠ gb293) ∧ (Below w.heap.size w w')) ?_ ?_
                               rotate_left
                               · intro hJ8
                                 refine join_ (σ := Nat) 9 #[true, false, true, false, false, false, false, false, false, true, false, false] (fun s_ => [(8, .pointer (some ⟨s_, 0, none⟩))]) (fun s_ w' => (w'.cell? ⟨gb290, 0, none⟩ = some (.int .i64 a0_0) ∧ w'.cell? ⟨gb290, 1, none⟩ = some (.int .u64 a0_1) ∧ w'.cell? ⟨gb291, 0, none⟩ = some (.int .i64 a1_0) ∧ w'.cell? ⟨gb291, 1, none⟩ = some (.int .u64 a1_1)) ∧ (w'.heap[gb290]? = some (.cells #[.int .i64 a0_0, .int .u64 a0_1] 24 (0, 0))) ∧ (w'.heap[gb291]? = some (.cells #[.int .i64 a1_0, .int .u64 a1_1] 24 (0, 0))) ∧ (w'.heap[gb292]? = some (.cells #[.int .i64 0, .int .u64 0] 24 (0, 0))) ∧ (w'.heap[gb293]? = some (.cells #[.int .i64 0, .int .u64 0] 24 (0, 0))) ∧ (w'.heap[s_]? = some (.cells #[.int .u64 0, .int .u64 0] 62 (0, 0))) ∧ (w.heap.size ≤ s_) ∧ (gb290 ≠ s_) ∧ (s_ ≠ gb290) ∧ (gb291 ≠ s_) ∧ (s_ ≠ gb291) ∧ (gb292 ≠ s_) ∧ (s_ ≠ gb292) ∧ (gb293 ≠ s_) ∧ (s_ ≠ gb293) ∧ (Below w.heap.size w w')) ?_ ?_
                                 rotate_left
                                 · intro hJ9
                                   refine three_ (i := 1) (j := 8) (k := 9) (Ni := some 20) (Nj := some 7) (Nk := some 8) #[true, true, true, false, false, false, false, false, false, false, false, false] #[true, false, true, false, false, false, false, false, true, false, false, false] #[true, false, true, false, false, false, false, false, false, true, false, false] rfl rfl rfl rfl rfl rfl (three_of HT_.out (by kernel_rfl)) (by decide) (by decide) (by decide) (fun K hK => ?_) (fun K hK => ?_) (fun K hK => ?_)
                                   · skip
                                     refine goes_ Tryd.func64 (by kernel_rfl) rfl #[.agg #[.int .i64 a0_0, .int .u64 a0_1]] (by rfl) rfl rfl rf ?_
                                     with_reducible refine (wide_amount.calls a0_0 a0_1 t294 t295 _ A17.out).mono ?_
                                     rintro e w32 ⟨rfl, hb⟩; refine ⟨_, rfl, ?_⟩; replace BK290 := am (bb BK290 hb); replace BK291 := am (bb BK291 hb); replace BK292 := am (bb BK292 hb); replace BK293 := am (bb BK293 hb); replace HB := am (below_step bz hb); (try clear hb); (try clear hb2); (try clear hk); (try clear hi)
                                     refine hK.out _ _ ⟨bc BK290 0, bc BK290 1, bc BK291 0, bc BK291 1⟩ (fun hHeld => ?_)
                                     clear hK K
                                     refine norm_ (a' := ?_) ?_ ?_
                                     rotate_left
                                     · show Act.put _ (some 20) _ = _
                                       simp only [Act.put, List.setIfInBounds_toArray, List.set_cons_zero, List.set_cons_succ, i64_w, i32_w]
                                       rfl
                                     exact nm (hJ1 () _ ⟨hHeld, (bq BK290), (bq BK291), (bq BK292), (bq BK293), bz⟩)
                                   · skip
                                     refine box_step (by rfl) (N := 7) (by rfl) (cs := #[.int .u64 0, .int .u64 0]) (t := 62) (by go_simp <;> rfl) ?_
                                     intro gb302 hg w32 hbox hb; have BK302 := am (hbox); have GW302 := gw w hg; replace HB := am (below_step bz hb); have NB290_302 := nl BK290 hg; have NB302_290 := nr BK290 hg; replace BK290 := am (bb BK290 hb); have NB291_302 := nl BK291 hg; have NB302_291 := nr BK291 hg; replace BK291 := am (bb BK291 hb); have NB292_302 := nl BK292 hg; have NB302_292 := nr BK292 hg; replace BK292 := am (bb BK292 hb); have NB293_302 := nl BK293 hg; have NB302_293 := nr BK293 hg; replace BK293 := am (bb BK293 hb); clear hb hbox hg
                                     refine hK.out _ _ ⟨bc BK290 0, bc BK290 1, bc BK291 0, bc BK291 1⟩ (fun hHeld => ?_)
                                     clear hK K
                                     refine norm_ (a' := ?_) ?_ ?_
                                     rotate_left
                                     · show Act.put _ (some 7) _ = _
                                       simp only [Act.put, List.setIfInBounds_toArray, List.set_cons_zero, List.set_cons_succ, i64_w, i32_w]
                                       rfl
                                     exact nm (hJ8 (gb302) _ ⟨hHeld, (bq BK290), (bq BK291), (bq BK292), (bq BK293), (bq BK302), GW302.out, NB290_302.out, NB302_290.out, NB291_302.out, NB302_291.out, NB292_302.out, NB302_292.out, NB293_302.out, NB302_293.out, bz⟩)
                                   · skip
                                     refine box_step (by rfl) (N := 8) (by rfl) (cs := #[.int .u64 0, .int .u64 0]) (t := 62) (by go_simp <;> rfl) ?_
                                     intro gb303 hg w32 hbox hb; have BK303 := am (hbox); have GW303 := gw w hg; replace HB := am (below_step bz hb); have NB290_303 := nl BK290 hg; have NB303_290 := nr BK290 hg; replace BK290 := am (bb BK290 hb); have NB291_303 := nl BK291 hg; have NB303_291 := nr BK291 hg; replace BK291 := am (bb BK291 hb); have NB292_303 := nl BK292 hg; have NB303_292 := nr BK292 hg; replace BK292 := am (bb BK292 hb); have NB293_303 := nl BK293 hg; have NB303_293 := nr BK293 hg; replace BK293 := am (bb BK293 hb); clear hb hbox hg
                                     refine hK.out _ _ ⟨bc BK290 0, bc BK290 1, bc BK291 0, bc BK291 1⟩ (fun hHeld => ?_)
                                     clear hK K
                                     refine norm_ (a' := ?_) ?_ ?_
                                     rotate_left
                                     · show Act.put _ (some 8) _ = _
                                       simp only [Act.put, List.setIfInBounds_toArray, List.set_cons_zero, List.set_cons_succ, i64_w, i32_w]
                                       rfl
                                     exact nm (hJ9 (gb303) _ ⟨hHeld, (bq BK290), (bq BK291), (bq BK292), (bq BK293), (bq BK303), GW303.out, NB290_303.out, NB303_290.out, NB291_303.out, NB303_291.out, NB292_303.out, NB303_292.out, NB293_303.out, NB303_293.out, bz⟩)
                                 · skip
                                   rintro gb303 w33 h_; obtain ⟨hS_, h0_, h1_, h2_, h3_, h4_, h5_, h7_, h8_, h9_, h10_, h11_, h12_, h13_, h14_, h15_⟩ := h_; replace BK290 := am h0_; replace BK291 := am h1_; replace BK292 := am h2_; replace BK293 := am h3_; have BK303 := am h4_; have GW303 := am h5_; have NB290_303 := am h7_; have NB303_290 := am h8_; have NB291_303 := am h9_; have NB303_291 := am h10_; have NB292_303 := am h11_; have NB303_292 := am h12_; have NB293_303 := am h13_; have NB303_293 := am h14_; replace HB := am h15_; clear h0_ h1_ h2_ h3_ h4_ h5_ h7_ h8_ h9_ h10_ h11_ h12_ h13_ h14_ h15_; have hHeld : w33.cell? ⟨gb290, 0, none⟩ = some (.int .i64 a0_0) ∧ w33.cell? ⟨gb290, 1, none⟩ = some (.int .u64 a0_1) ∧ w33.cell? ⟨gb291, 0, none⟩ = some (.int .i64 a1_0) ∧ w33.cell? ⟨gb291, 1, none⟩ = some (.int .u64 a1_1) := hS_
                                   refine norm_ (a' := ?_) ?_ ?_
                                   rotate_left
                                   · simp only [putAll, Act.put, List.setIfInBounds_toArray, List.set_cons_zero, List.set_cons_succ]
                                     rfl
                                   refine two_ (i := 1) (j := 8) (Ni := some 20) (Nj := some 7) #[true, true, true, false, false, false, false, false, false, true, false, false] #[true, false, true, false, false, false, false, false, true, true, false, false] rfl rfl rfl rfl (two_of HT_.out (by kernel_rfl)) (by decide) (by decide) (fun K hK => ?_) (fun K hK => ?_)
                                   · skip
                                     refine goes_ Tryd.func64 (by kernel_rfl) rfl #[.agg #[.int .i64 a0_0, .int .u64 a0_1]] (by rfl) rfl rfl rf ?_
                                     with_reducible refine (wide_amount.calls a0_0 a0_1 t294 t295 _ A17.out).mono ?_
                                     rintro e w34 ⟨rfl, hb⟩; refine ⟨_, rfl, ?_⟩; replace BK290 := am (bb BK290 hb); replace BK291 := am (bb BK291 hb); replace BK292 := am (bb BK292 hb); replace BK293 := am (bb BK293 hb); replace BK303 := am (bb BK303 hb); replace HB := am (below_step bz hb); (try clear hb); (try clear hb2); (try clear hk); (try clear hi)
                                     refine hK.out _ _ ⟨bc BK290 0, bc BK290 1, bc BK291 0, bc BK291 1⟩ (fun hHeld => ?_)
                                     clear hK K
                                     refine norm_ (a' := ?_) ?_ ?_
                                     rotate_left
                                     · show Act.put _ (some 20) _ = _
                                       simp only [Act.put, List.setIfInBounds_toArray, List.set_cons_zero, List.set_cons_succ, i64_w, i32_w]
                                       rfl
                                     exact nm (hJ1_9 (gb303) _ ⟨hHeld, (bq BK290), (bq BK291), (bq BK292), (bq BK293), (bq BK303), GW303.out, NB290_303.out, NB303_290.out, NB291_303.out, NB303_291.out, NB292_303.out, NB303_292.out, NB293_303.out, NB303_293.out, bz⟩)
                                   · skip
                                     refine box_step (by rfl) (N := 7) (by rfl) (cs := #[.int .u64 0, .int .u64 0]) (t := 62) (by go_simp <;> rfl) ?_
                                     intro gb302 hg w34 hbox hb; have BK302 := am (hbox); have GW302 := gw w hg; replace HB := am (below_step bz hb); have NB290_302 := nl BK290 hg; have NB302_290 := nr BK290 hg; replace BK290 := am (bb BK290 hb); have NB291_302 := nl BK291 hg; have NB302_291 := nr BK291 hg; replace BK291 := am (bb BK291 hb); have NB292_302 := nl BK292 hg; have NB302_292 := nr BK292 hg; replace BK292 := am (bb BK292 hb); have NB293_302 := nl BK293 hg; have NB302_293 := nr BK293 hg; replace BK293 := am (bb BK293 hb); have NB303_302 := nl BK303 hg; have NB302_303 := nr BK303 hg; replace BK303 := am (bb BK303 hb); clear hb hbox hg
                                     refine hK.out _ _ ⟨bc BK290 0, bc BK290 1, bc BK291 0, bc BK291 1⟩ (fun hHeld => ?_)
                                     clear hK K
                                     refine norm_ (a' := ?_) ?_ ?_
                                     rotate_left
                                     · show Act.put _ (some 7) _ = _
                                       simp only [Act.put, List.setIfInBounds_toArray, List.set_cons_zero, List.set_cons_succ, i64_w, i32_w]
                                       rfl
                                     exact nm (hJ8_9 (gb302, gb303) _ ⟨hHeld, (bq BK290), (bq BK291), (bq BK292), (bq BK293), (bq BK302), (bq BK303), GW302.out, NB290_302.out, NB302_290.out, NB291_302.out, NB302_291.out, NB292_302.out, NB302_292.out, NB293_302.out, NB302_293.out, NB303_302.out, NB302_303.out, GW303.out, NB290_303.out, NB303_290.out, NB291_303.out, NB303_291.out, NB292_303.out, NB303_292.out, NB293_303.out, NB303_293.out, bz⟩)
                               · skip
                                 rintro gb302 w33 h_; obtain ⟨hS_, h0_, h1_, h2_, h3_, h4_, h5_, h7_, h8_, h9_, h10_, h11_, h12_, h13_, h14_, h15_⟩ := h_; replace BK290 := am h0_; replace BK291 := am h1_; replace BK292 := am h2_; replace BK293 := am h3_; have BK302 := am h4_; have GW302 := am h5_; have NB290_302 := am h7_; have NB302_290 := am h8_; have NB291_302 := am h9_; have NB302_291 := am h10_; have NB292_302 := am h11_; have NB302_292 := am h12_; have NB293_302 := am h13_; have NB302_293 := am h14_; replace HB := am h15_; clear h0_ h1_ h2_ h3_ h4_ h5_ h7_ h8_ h9_ h10_ h11_ h12_ h13_ h14_ h15_; have hHeld : w33.cell? ⟨gb290, 0, none⟩ = some (.int .i64 a0_0) ∧ w33.cell? ⟨gb290, 1, none⟩ = some (.int .u64 a0_1) ∧ w33.cell? ⟨gb291, 0, none⟩ = some (.int .i64 a1_0) ∧ w33.cell? ⟨gb291, 1, none⟩ = some (.int .u64 a1_1) := hS_
                                 refine norm_ (a' := ?_) ?_ ?_
                                 rotate_left
                                 · simp only [putAll, Act.put, List.setIfInBounds_toArray, List.set_cons_zero, List.set_cons_succ]
                                   rfl
                                 refine two_ (i := 1) (j := 9) (Ni := some 20) (Nj := some 8) #[true, true, true, false, false, false, false, false, true, false, false, false] #[true, false, true, false, false, false, false, false, true, true, false, false] rfl rfl rfl rfl (two_of HT_.out (by kernel_rfl)) (by decide) (by decide) (fun K hK => ?_) (fun K hK => ?_)
                                 · skip
                                   refine goes_ Tryd.func64 (by kernel_rfl) rfl #[.agg #[.int .i64 a0_0, .int .u64 a0_1]] (by rfl) rfl rfl rf ?_
                                   with_reducible refine (wide_amount.calls a0_0 a0_1 t294 t295 _ A17.out).mono ?_
                                   rintro e w34 ⟨rfl, hb⟩; refine ⟨_, rfl, ?_⟩; replace BK290 := am (bb BK290 hb); replace BK291 := am (bb BK291 hb); replace BK292 := am (bb BK292 hb); replace BK293 := am (bb BK293 hb); replace BK302 := am (bb BK302 hb); replace HB := am (below_step bz hb); (try clear hb); (try clear hb2); (try clear hk); (try clear hi)
                                   refine hK.out _ _ ⟨bc BK290 0, bc BK290 1, bc BK291 0, bc BK291 1⟩ (fun hHeld => ?_)
                                   clear hK K
                                   refine norm_ (a' := ?_) ?_ ?_
                                   rotate_left
                                   · show Act.put _ (some 20) _ = _
                                     simp only [Act.put, List.setIfInBounds_toArray, List.set_cons_zero, List.set_cons_succ, i64_w, i32_w]
                                     rfl
                                   exact nm (hJ1_8 (gb302) _ ⟨hHeld, (bq BK290), (bq BK291), (bq BK292), (bq BK293), (bq BK302), GW302.out, NB290_302.out, NB302_290.out, NB291_302.out, NB302_291.out, NB292_302.out, NB302_292.out, NB293_302.out, NB302_293.out, bz⟩)
                                 · skip
                                   refine box_step (by rfl) (N := 8) (by rfl) (cs := #[.int .u64 0, .int .u64 0]) (t := 62) (by go_simp <;> rfl) ?_
                                   intro gb303 hg w34 hbox hb; have BK303 := am (hbox); have GW303 := gw w hg; replace HB := am (below_step bz hb); have NB290_303 := nl BK290 hg; have NB303_290 := nr BK290 hg; replace BK290 := am (bb BK290 hb); have NB291_303 := nl BK291 hg; have NB303_291 := nr BK291 hg; replace BK291 := am (bb BK291 hb); have NB292_303 := nl BK292 hg; have NB303_292 := nr BK292 hg; replace BK292 := am (bb BK292 hb); have NB293_303 := nl BK293 hg; have NB303_293 := nr BK293 hg; replace BK293 := am (bb BK293 hb); have NB302_303 := nl BK302 hg; have NB303_302 := nr BK302 hg; replace BK302 := am (bb BK302 hb); clear hb hbox hg
                                   refine hK.out _ _ ⟨bc BK290 0, bc BK290 1, bc BK291 0, bc BK291 1⟩ (fun hHeld => ?_)
                                   clear hK K
                                   refine norm_ (a' := ?_) ?_ ?_
                                   rotate_left
                                   · show Act.put _ (some 8) _ = _
                                     simp only [Act.put, List.setIfInBounds_toArray, List.set_cons_zero, List.set_cons_succ, i64_w, i32_w]
                                     rfl
                                   exact nm (hJ8_9 (gb302, gb303) _ ⟨hHeld, (bq BK290), (bq BK291), (bq BK292), (bq BK293), (bq BK302), (bq BK303), GW302.out, NB290_302.out, NB302_290.out, NB291_302.out, NB302_291.out, NB292_302.out, NB302_292.out, NB293_302.out, NB302_293.out, NB303_302.out, NB302_303.out, GW303.out, NB290_303.out, NB303_290.out, NB291_303.out, NB303_291.out, NB292_303.out, NB303_292.out, NB293_303.out, NB303_293.out, bz⟩)
                             · skip
                               rintro _ w33 h_; obtain ⟨hS_, h0_, h1_, h2_, h3_, h4_⟩ := h_; replace BK290 := am h0_; replace BK291 := am h1_; replace BK292 := am h2_; replace BK293 := am h3_; replace HB := am h4_; clear h0_ h1_ h2_ h3_ h4_; have hHeld : w33.cell? ⟨gb290, 0, none⟩ = some (.int .i64 a0_0) ∧ w33.cell? ⟨gb290, 1, none⟩ = some (.int .u64 a0_1) ∧ w33.cell? ⟨gb291, 0, none⟩ = some (.int .i64 a1_0) ∧ w33.cell? ⟨gb291, 1, none⟩ = some (.int .u64 a1_1) := hS_
                               refine norm_ (a' := ?_) ?_ ?_
                               rotate_left
                               · simp only [putAll, Act.put, List.setIfInBounds_toArray, List.set_cons_zero, List.set_cons_succ]
                                 rfl
                               refine three_ (i := 3) (j := 8) (k := 9) (Ni := some 22) (Nj := some 7) (Nk := some 8) #[true, true, true, true, false, false, false, false, false, false, false, false] #[true, true, true, false, false, false, false, false, true, false, false, false] #[true, true, true, false, false, false, false, false, false, true, false, false] rfl rfl rfl rfl rfl rfl (three_of HT_.out (by kernel_rfl)) (by decide) (by decide) (by decide) (fun K hK => ?_) (fun K hK => ?_) (fun K hK => ?_)
                               · skip
                                 refine goes_ Tryd.func64 (by kernel_rfl) rfl #[.agg #[.int .i64 a1_0, .int .u64 a1_1]] (by rfl) rfl rfl rf ?_
                                 with_reducible refine (wide_amount.calls a1_0 a1_1 t296 t297 _ A18.out).mono ?_
                                 rintro e w34 ⟨rfl, hb⟩; refine ⟨_, rfl, ?_⟩; replace BK290 := am (bb BK290 hb); replace BK291 := am (bb BK291 hb); replace BK292 := am (bb BK292 hb); replace BK293 := am (bb BK293 hb); replace HB := am (below_step bz hb); (try clear hb); (try clear hb2); (try clear hk); (try clear hi)
                                 refine hK.out _ _ ⟨bc BK290 0, bc BK290 1, bc BK291 0, bc BK291 1⟩ (fun hHeld => ?_)
                                 clear hK K
                                 refine norm_ (a' := ?_) ?_ ?_
                                 rotate_left
                                 · show Act.put _ (some 22) _ = _
                                   simp only [Act.put, List.setIfInBounds_toArray, List.set_cons_zero, List.set_cons_succ, i64_w, i32_w]
                                   rfl
                                 exact nm (hJ1_3 () _ ⟨hHeld, (bq BK290), (bq BK291), (bq BK292), (bq BK293), bz⟩)
                               · skip
                                 refine box_step (by rfl) (N := 7) (by rfl) (cs := #[.int .u64 0, .int .u64 0]) (t := 62) (by go_simp <;> rfl) ?_
                                 intro gb302 hg w34 hbox hb; have BK302 := am (hbox); have GW302 := gw w hg; replace HB := am (below_step bz hb); have NB290_302 := nl BK290 hg; have NB302_290 := nr BK290 hg; replace BK290 := am (bb BK290 hb); have NB291_302 := nl BK291 hg; have NB302_291 := nr BK291 hg; replace BK291 := am (bb BK291 hb); have NB292_302 := nl BK292 hg; have NB302_292 := nr BK292 hg; replace BK292 := am (bb BK292 hb); have NB293_302 := nl BK293 hg; have NB302_293 := nr BK293 hg; replace BK293 := am (bb BK293 hb); clear hb hbox hg
                                 refine hK.out _ _ ⟨bc BK290 0, bc BK290 1, bc BK291 0, bc BK291 1⟩ (fun hHeld => ?_)
                                 clear hK K
                                 refine norm_ (a' := ?_) ?_ ?_
                                 rotate_left
                                 · show Act.put _ (some 7) _ = _
                                   simp only [Act.put, List.setIfInBounds_toArray, List.set_cons_zero, List.set_cons_succ, i64_w, i32_w]
                                   rfl
                                 exact nm (hJ1_8 (gb302) _ ⟨hHeld, (bq BK290), (bq BK291), (bq BK292), (bq BK293), (bq BK302), GW302.out, NB290_302.out, NB302_290.out, NB291_302.out, NB302_291.out, NB292_302.out, NB302_292.out, NB293_302.out, NB302_293.out, bz⟩)
                               · skip
                                 refine box_step (by rfl) (N := 8) (by rfl) (cs := #[.int .u64 0, .int .u64 0]) (t := 62) (by go_simp <;> rfl) ?_
                                 intro gb303 hg w34 hbox hb; have BK303 := am (hbox); have GW303 := gw w hg; replace HB := am (below_step bz hb); have NB290_303 := nl BK290 hg; have NB303_290 := nr BK290 hg; replace BK290 := am (bb BK290 hb); have NB291_303 := nl BK291 hg; have NB303_291 := nr BK291 hg; replace BK291 := am (bb BK291 hb); have NB292_303 := nl BK292 hg; have NB303_292 := nr BK292 hg; replace BK292 := am (bb BK292 hb); have NB293_303 := nl BK293 hg; have NB303_293 := nr BK293 hg; replace BK293 := am (bb BK293 hb); clear hb hbox hg
                                 refine hK.out _ _ ⟨bc BK290 0, bc BK290 1, bc BK291 0, bc BK291 1⟩ (fun hHeld => ?_)
                                 clear hK K
                                 refine norm_ (a' := ?_) ?_ ?_
                                 rotate_left
                                 · show Act.put _ (some 8) _ = _
                                   simp only [Act.put, List.setIfInBounds_toArray, List.set_cons_zero, List.set_cons_succ, i64_w, i32_w]
                                   rfl
                                 exact nm (hJ1_9 (gb303) _ ⟨hHeld, (bq BK290), (bq BK291), (bq BK292), (bq BK293), (bq BK303), GW303.out, NB290_303.out, NB303_290.out, NB291_303.out, NB303_291.out, NB292_303.out, NB303_292.out, NB293_303.out, NB303_293.out, bz⟩)
                           · skip
                             rintro ⟨gb302, gb303⟩ w34 h_; dsimp only at h_; obtain ⟨hS_, h0_, h1_, h2_, h3_, h4_, h5_, h6_, h8_, h9_, h10_, h11_, h12_, h13_, h14_, h15_, h16_, h17_, h18_, h20_, h21_, h22_, h23_, h24_, h25_, h26_, h27_, h28_⟩ := h_; replace BK290 := am h0_; replace BK291 := am h1_; replace BK292 := am h2_; replace BK293 := am h3_; have BK302 := am h4_; have BK303 := am h5_; have GW302 := am h6_; have NB290_302 := am h8_; have NB302_290 := am h9_; have NB291_302 := am h10_; have NB302_291 := am h11_; have NB292_302 := am h12_; have NB302_292 := am h13_; have NB293_302 := am h14_; have NB302_293 := am h15_; have NB303_302 := am h16_; have NB302_303 := am h17_; have GW303 := am h18_; have NB290_303 := am h20_; have NB303_290 := am h21_; have NB291_303 := am h22_; have NB303_291 := am h23_; have NB292_303 := am h24_; have NB303_292 := am h25_; have NB293_303 := am h26_; have NB303_293 := am h27_; replace HB := am h28_; clear h0_ h1_ h2_ h3_ h4_ h5_ h6_ h8_ h9_ h10_ h11_ h12_ h13_ h14_ h15_ h16_ h17_ h18_ h20_ h21_ h22_ h23_ h24_ h25_ h26_ h27_ h28_; have hHeld : w34.cell? ⟨gb290, 0, none⟩ = some (.int .i64 a0_0) ∧ w34.cell? ⟨gb290, 1, none⟩ = some (.int .u64 a0_1) ∧ w34.cell? ⟨gb291, 0, none⟩ = some (.int .i64 a1_0) ∧ w34.cell? ⟨gb291, 1, none⟩ = some (.int .u64 a1_1) := hS_
                             refine norm_ (a' := ?_) ?_ ?_
                             rotate_left
                             · simp only [putAll, Act.put, List.setIfInBounds_toArray, List.set_cons_zero, List.set_cons_succ]
                               rfl
                             refine one_ (i := 1) (N := some 20) #[true, true, true, false, false, false, false, false, true, true, false, false] rfl rfl (one_of HT_.out (by kernel_rfl)) (by decide) (fun K hK => ?_)
                             refine goes_ Tryd.func64 (by kernel_rfl) rfl #[.agg #[.int .i64 a0_0, .int .u64 a0_1]] (by rfl) rfl rfl rf ?_
                             with_reducible refine (wide_amount.calls a0_0 a0_1 t294 t295 _ A17.out).mono ?_
                             rintro e w35 ⟨rfl, hb⟩; refine ⟨_, rfl, ?_⟩; replace BK290 := am (bb BK290 hb); replace BK291 := am (bb BK291 hb); replace BK292 := am (bb BK292 hb); replace BK293 := am (bb BK293 hb); replace BK302 := am (bb BK302 hb); replace BK303 := am (bb BK303 hb); replace HB := am (below_step bz hb); (try clear hb); (try clear hb2); (try clear hk); (try clear hi)
                             refine hK.out _ _ ⟨bc BK290 0, bc BK290 1, bc BK291 0, bc BK291 1⟩ (fun hHeld => ?_)
                             clear hK K
                             refine norm_ (a' := ?_) ?_ ?_
                             rotate_left
                             · show Act.put _ (some 20) _ = _
                               simp only [Act.put, List.setIfInBounds_toArray, List.set_cons_zero, List.set_cons_succ, i64_w, i32_w]
                               rfl
                             exact nm (hJ1_8_9 (gb302, gb303) _ ⟨hHeld, (bq BK290), (bq BK291), (bq BK292), (bq BK293), (bq BK302), (bq BK303), GW302.out, NB290_302.out, NB302_290.out, NB291_302.out, NB302_291.out, NB292_302.out, NB302_292.out, NB293_302.out, NB302_293.out, NB303_302.out, NB302_303.out, GW303.out, NB290_303.out, NB303_290.out, NB291_303.out, NB303_291.out, NB292_303.out, NB303_292.out, NB293_303.out, NB303_293.out, bz⟩)
                         · skip
                           rintro gb303 w34 h_; obtain ⟨hS_, h0_, h1_, h2_, h3_, h4_, h5_, h7_, h8_, h9_, h10_, h11_, h12_, h13_, h14_, h15_⟩ := h_; replace BK290 := am h0_; replace BK291 := am h1_; replace BK292 := am h2_; replace BK293 := am h3_; have BK303 := am h4_; have GW303 := am h5_; have NB290_303 := am h7_; have NB303_290 := am h8_; have NB291_303 := am h9_; have NB303_291 := am h10_; have NB292_303 := am h11_; have NB303_292 := am h12_; have NB293_303 := am h13_; have NB303_293 := am h14_; replace HB := am h15_; clear h0_ h1_ h2_ h3_ h4_ h5_ h7_ h8_ h9_ h10_ h11_ h12_ h13_ h14_ h15_; have hHeld : w34.cell? ⟨gb290, 0, none⟩ = some (.int .i64 a0_0) ∧ w34.cell? ⟨gb290, 1, none⟩ = some (.int .u64 a0_1) ∧ w34.cell? ⟨gb291, 0, none⟩ = some (.int .i64 a1_0) ∧ w34.cell? ⟨gb291, 1, none⟩ = some (.int .u64 a1_1) := hS_
                           refine norm_ (a' := ?_) ?_ ?_
                           rotate_left
                           · simp only [putAll, Act.put, List.setIfInBounds_toArray, List.set_cons_zero, List.set_cons_succ]
                             rfl
                           refine two_ (i := 3) (j := 8) (Ni := some 22) (Nj := some 7) #[true, true, true, true, false, false, false, false, false, true, false, false] #[true, true, true, false, false, false, false, false, true, true, false, false] rfl rfl rfl rfl (two_of HT_.out (by kernel_rfl)) (by decide) (by decide) (fun K hK => ?_) (fun K hK => ?_)
                           · skip
                             refine goes_ Tryd.func64 (by kernel_rfl) rfl #[.agg #[.int .i64 a1_0, .int .u64 a1_1]] (by rfl) rfl rfl rf ?_
                             with_reducible refine (wide_amount.calls a1_0 a1_1 t296 t297 _ A18.out).mono ?_
                             rintro e w35 ⟨rfl, hb⟩; refine ⟨_, rfl, ?_⟩; replace BK290 := am (bb BK290 hb); replace BK291 := am (bb BK291 hb); replace BK292 := am (bb BK292 hb); replace BK293 := am (bb BK293 hb); replace BK303 := am (bb BK303 hb); replace HB := am (below_step bz hb); (try clear hb); (try clear hb2); (try clear hk); (try clear hi)
                             refine hK.out _ _ ⟨bc BK290 0, bc BK290 1, bc BK291 0, bc BK291 1⟩ (fun hHeld => ?_)
                             clear hK K
                             refine norm_ (a' := ?_) ?_ ?_
                             rotate_left
                             · show Act.put _ (some 22) _ = _
                               simp only [Act.put, List.setIfInBounds_toArray, List.set_cons_zero, List.set_cons_succ, i64_w, i32_w]
                               rfl
                             exact nm (hJ1_3_9 (gb303) _ ⟨hHeld, (bq BK290), (bq BK291), (bq BK292), (bq BK293), (bq BK303), GW303.out, NB290_303.out, NB303_290.out, NB291_303.out, NB303_291.out, NB292_303.out, NB303_292.out, NB293_303.out, NB303_293.out, bz⟩)
                           · skip
                             refine box_step (by rfl) (N := 7) (by rfl) (cs := #[.int .u64 0, .int .u64 0]) (t := 62) (by go_simp <;> rfl) ?_
                             intro gb302 hg w35 hbox hb; have BK302 := am (hbox); have GW302 := gw w hg; replace HB := am (below_step bz hb); have NB290_302 := nl BK290 hg; have NB302_290 := nr BK290 hg; replace BK290 := am (bb BK290 hb); have NB291_302 := nl BK291 hg; have NB302_291 := nr BK291 hg; replace BK291 := am (bb BK291 hb); have NB292_302 := nl BK292 hg; have NB302_292 := nr BK292 hg; replace BK292 := am (bb BK292 hb); have NB293_302 := nl BK293 hg; have NB302_293 := nr BK293 hg; replace BK293 := am (bb BK293 hb); have NB303_302 := nl BK303 hg; have NB302_303 := nr BK303 hg; replace BK303 := am (bb BK303 hb); clear hb hbox hg
                             refine hK.out _ _ ⟨bc BK290 0, bc BK290 1, bc BK291 0, bc BK291 1⟩ (fun hHeld => ?_)
                             clear hK K
                             refine norm_ (a' := ?_) ?_ ?_
                             rotate_left
                             · show Act.put _ (some 7) _ = _
                               simp only [Act.put, List.setIfInBounds_toArray, List.set_cons_zero, List.set_cons_succ, i64_w, i32_w]
                               rfl
                             exact nm (hJ1_8_9 (gb302, gb303) _ ⟨hHeld, (bq BK290), (bq BK291), (bq BK292), (bq BK293), (bq BK302), (bq BK303), GW302.out, NB290_302.out, NB302_290.out, NB291_302.out, NB302_291.out, NB292_302.out, NB302_292.out, NB293_302.out, NB302_293.out, NB303_302.out, NB302_303.out, GW303.out, NB290_303.out, NB303_290.out, NB291_303.out, NB303_291.out, NB292_303.out, NB303_292.out, NB293_303.out, NB303_293.out, bz⟩)
                       · skip
                         rintro gb302 w34 h_; obtain ⟨hS_, h0_, h1_, h2_, h3_, h4_, h5_, h7_, h8_, h9_, h10_, h11_, h12_, h13_, h14_, h15_⟩ := h_; replace BK290 := am h0_; replace BK291 := am h1_; replace BK292 := am h2_; replace BK293 := am h3_; have BK302 := am h4_; have GW302 := am h5_; have NB290_302 := am h7_; have NB302_290 := am h8_; have NB291_302 := am h9_; have NB302_291 := am h10_; have NB292_302 := am h11_; have NB302_292 := am h12_; have NB293_302 := am h13_; have NB302_293 := am h14_; replace HB := am h15_; clear h0_ h1_ h2_ h3_ h4_ h5_ h7_ h8_ h9_ h10_ h11_ h12_ h13_ h14_ h15_; have hHeld : w34.cell? ⟨gb290, 0, none⟩ = some (.int .i64 a0_0) ∧ w34.cell? ⟨gb290, 1, none⟩ = some (.int .u64 a0_1) ∧ w34.cell? ⟨gb291, 0, none⟩ = some (.int .i64 a1_0) ∧ w34.cell? ⟨gb291, 1, none⟩ = some (.int .u64 a1_1) := hS_
                         refine norm_ (a' := ?_) ?_ ?_
                         rotate_left
                         · simp only [putAll, Act.put, List.setIfInBounds_toArray, List.set_cons_zero, List.set_cons_succ]
                           rfl
                         refine two_ (i := 3) (j := 9) (Ni := some 22) (Nj := some 8) #[true, true, true, true, false, false, false, false, true, false, false, false] #[true, true, true, false, false, false, false, false, true, true, false, false] rfl rfl rfl rfl (two_of HT_.out (by kernel_rfl)) (by decide) (by decide) (fun K hK => ?_) (fun K hK => ?_)
                         · skip
                           refine goes_ Tryd.func64 (by kernel_rfl) rfl #[.agg #[.int .i64 a1_0, .int .u64 a1_1]] (by rfl) rfl rfl rf ?_
                           with_reducible refine (wide_amount.calls a1_0 a1_1 t296 t297 _ A18.out).mono ?_
                           rintro e w35 ⟨rfl, hb⟩; refine ⟨_, rfl, ?_⟩; replace BK290 := am (bb BK290 hb); replace BK291 := am (bb BK291 hb); replace BK292 := am (bb BK292 hb); replace BK293 := am (bb BK293 hb); replace BK302 := am (bb BK302 hb); replace HB := am (below_step bz hb); (try clear hb); (try clear hb2); (try clear hk); (try clear hi)
                           refine hK.out _ _ ⟨bc BK290 0, bc BK290 1, bc BK291 0, bc BK291 1⟩ (fun hHeld => ?_)
                           clear hK K
                           refine norm_ (a' := ?_) ?_ ?_
                           rotate_left
                           · show Act.put _ (some 22) _ = _
                             simp only [Act.put, List.setIfInBounds_toArray, List.set_cons_zero, List.set_cons_succ, i64_w, i32_w]
                             rfl
                           exact nm (hJ1_3_8 (gb302) _ ⟨hHeld, (bq BK290), (bq BK291), (bq BK292), (bq BK293), (bq BK302), GW302.out, NB290_302.out, NB302_290.out, NB291_302.out, NB302_291.out, NB292_302.out, NB302_292.out, NB293_302.out, NB302_293.out, bz⟩)
                         · skip
                           refine box_step (by rfl) (N := 8) (by rfl) (cs := #[.int .u64 0, .int .u64 0]) (t := 62) (by go_simp <;> rfl) ?_
                           intro gb303 hg w35 hbox hb; have BK303 := am (hbox); have GW303 := gw w hg; replace HB := am (below_step bz hb); have NB290_303 := nl BK290 hg; have NB303_290 := nr BK290 hg; replace BK290 := am (bb BK290 hb); have NB291_303 := nl BK291 hg; have NB303_291 := nr BK291 hg; replace BK291 := am (bb BK291 hb); have NB292_303 := nl BK292 hg; have NB303_292 := nr BK292 hg; replace BK292 := am (bb BK292 hb); have NB293_303 := nl BK293 hg; have NB303_293 := nr BK293 hg; replace BK293 := am (bb BK293 hb); have NB302_303 := nl BK302 hg; have NB303_302 := nr BK302 hg; replace BK302 := am (bb BK302 hb); clear hb hbox hg
                           refine hK.out _ _ ⟨bc BK290 0, bc BK290 1, bc BK291 0, bc BK291 1⟩ (fun hHeld => ?_)
                           clear hK K
                           refine norm_ (a' := ?_) ?_ ?_
                           rotate_left
                           · show Act.put _ (some 8) _ = _
                             simp only [Act.put, List.setIfInBounds_toArray, List.set_cons_zero, List.set_cons_succ, i64_w, i32_w]
                             rfl
                           exact nm (hJ1_8_9 (gb302, gb303) _ ⟨hHeld, (bq BK290), (bq BK291), (bq BK292), (bq BK293), (bq BK302), (bq BK303), GW302.out, NB290_302.out, NB302_290.out, NB291_302.out, NB302_291.out, NB292_302.out, NB302_292.out, NB293_302.out, NB302_293.out, NB303_302.out, NB302_303.out, GW303.out, NB290_303.out, NB303_290.out, NB291_303.out, NB303_291.out, NB292_303.out, NB303_292.out, NB293_303.out, NB303_293.out, bz⟩)
                     · skip
                       rintro _ w34 h_; obtain ⟨hS_, h0_, h1_, h2_, h3_, h4_⟩ := h_; replace BK290 := am h0_; replace BK291 := am h1_; replace BK292 := am h2_; replace BK293 := am h3_; replace HB := am h4_; clear h0_ h1_ h2_ h3_ h4_; have hHeld : w34.cell? ⟨gb290, 0, none⟩ = some (.int .i64 a0_0) ∧ w34.cell? ⟨gb290, 1, none⟩ = some (.int .u64 a0_1) ∧ w34.cell? ⟨gb291, 0, none⟩ = some (.int .i64 a1_0) ∧ w34.cell? ⟨gb291, 1, none⟩ = some (.int .u64 a1_1) := hS_
                       refine norm_ (a' := ?_) ?_ ?_
                       rotate_left
                       · simp only [putAll, Act.put, List.setIfInBounds_toArray, List.set_cons_zero, List.set_cons_succ]
                         rfl
                       refine three_ (i := 4) (j := 8) (k := 9) (Ni := some 23) (Nj := some 7) (Nk := some 8) #[true, true, true, true, true, false, false, false, false, false, false, false] #[true, true, true, true, false, false, false, false, true, false, false, false] #[true, true, true, true, false, false, false, false, false, true, false, false] rfl rfl rfl rfl rfl rfl (three_of HT_.out (by kernel_rfl)) (by decide) (by decide) (by decide) (fun K hK => ?_) (fun K hK => ?_) (fun K hK => ?_)
                       · skip
                         refine goes_ Tryd.func65 (by kernel_rfl) rfl #[.agg #[.int .u64 t294, .int .u64 t295], .agg #[.int .u64 t296, .int .u64 t297]] (by rfl) rfl rfl rf ?_
                         with_reducible refine (wide_divided.calls k t294 t295 t296 t297 t298 t299 t300 t301 _ A19.out).mono ?_
                         rintro e w35 ⟨rfl, hb⟩; refine ⟨_, rfl, ?_⟩; replace BK290 := am (bb BK290 hb); replace BK291 := am (bb BK291 hb); replace BK292 := am (bb BK292 hb); replace BK293 := am (bb BK293 hb); replace HB := am (below_step bz hb); (try clear hb); (try clear hb2); (try clear hk); (try clear hi)
                         refine hK.out _ _ ⟨bc BK290 0, bc BK290 1, bc BK291 0, bc BK291 1⟩ (fun hHeld => ?_)
                         clear hK K
                         refine norm_ (a' := ?_) ?_ ?_
                         rotate_left
                         · show Act.put _ (some 23) _ = _
                           simp only [Act.put, List.setIfInBounds_toArray, List.set_cons_zero, List.set_cons_succ, i64_w, i32_w]
                           rfl
                         refine pure_ (i := 5) (N := some 18) (v := ?_) (a' := ?_) #[true, true, true, true, true, true, false, false, false, false, false, false] rfl rfl (any_of HT_.out (by kernel_rfl)) (fun _ _ _ h => h) (Or.inl ⟨by rfl, ?_⟩) ?_ ?_
                         rotate_left; · intro w'; go_simp; with_reducible rfl
                         rotate_left; · simp only [Act.put, List.setIfInBounds_toArray, List.set_cons_zero, List.set_cons_succ, i64_w, i32_w]; rfl
                         refine pure_ (i := 6) (N := some 24) (v := ?_) (a' := ?_) #[true, true, true, true, true, true, true, false, false, false, false, false] rfl rfl (any_of HT_.out (by kernel_rfl)) (fun _ _ _ h => h) (Or.inl ⟨by rfl, ?_⟩) ?_ ?_
                         rotate_left; · intro w'; go_simp; with_reducible rfl
                         rotate_left; · simp only [Act.put, List.setIfInBounds_toArray, List.set_cons_zero, List.set_cons_succ, i64_w, i32_w]; rfl
                         refine pure_ (i := 7) (N := some 25) (v := ?_) (a' := ?_) #[true, true, true, true, true, true, true, true, false, false, false, false] rfl rfl (any_of HT_.out (by kernel_rfl)) (fun _ _ _ h => h) (Or.inl ⟨by rfl, ?_⟩) ?_ ?_
                         rotate_left; · intro w'; go_simp; with_reducible rfl
                         rotate_left; · simp only [Act.put, List.setIfInBounds_toArray, List.set_cons_zero, List.set_cons_succ, i64_w, i32_w]; rfl
                         exact nm (hJ1_3_4 () _ ⟨hHeld, (bq BK290), (bq BK291), (bq BK292), (bq BK293), bz⟩)
                       · skip
                         refine box_step (by rfl) (N := 7) (by rfl) (cs := #[.int .u64 0, .int .u64 0]) (t := 62) (by go_simp <;> rfl) ?_
                         intro gb302 hg w35 hbox hb; have BK302 := am (hbox); have GW302 := gw w hg; replace HB := am (below_step bz hb); have NB290_302 := nl BK290 hg; have NB302_290 := nr BK290 hg; replace BK290 := am (bb BK290 hb); have NB291_302 := nl BK291 hg; have NB302_291 := nr BK291 hg; replace BK291 := am (bb BK291 hb); have NB292_302 := nl BK292 hg; have NB302_292 := nr BK292 hg; replace BK292 := am (bb BK292 hb); have NB293_302 := nl BK293 hg; have NB302_293 := nr BK293 hg; replace BK293 := am (bb BK293 hb); clear hb hbox hg
                         refine hK.out _ _ ⟨bc BK290 0, bc BK290 1, bc BK291 0, bc BK291 1⟩ (fun hHeld => ?_)
                         clear hK K
                         refine norm_ (a' := ?_) ?_ ?_
                         rotate_left
                         · show Act.put _ (some 7) _ = _
                           simp only [Act.put, List.setIfInBounds_toArray, List.set_cons_zero, List.set_cons_succ, i64_w, i32_w]
                           rfl
                         exact nm (hJ1_3_8 (gb302) _ ⟨hHeld, (bq BK290), (bq BK291), (bq BK292), (bq BK293), (bq BK302), GW302.out, NB290_302.out, NB302_290.out, NB291_302.out, NB302_291.out, NB292_302.out, NB302_292.out, NB293_302.out, NB302_293.out, bz⟩)
                       · skip
                         refine box_step (by rfl) (N := 8) (by rfl) (cs := #[.int .u64 0, .int .u64 0]) (t := 62) (by go_simp <;> rfl) ?_
                         intro gb303 hg w35 hbox hb; have BK303 := am (hbox); have GW303 := gw w hg; replace HB := am (below_step bz hb); have NB290_303 := nl BK290 hg; have NB303_290 := nr BK290 hg; replace BK290 := am (bb BK290 hb); have NB291_303 := nl BK291 hg; have NB303_291 := nr BK291 hg; replace BK291 := am (bb BK291 hb); have NB292_303 := nl BK292 hg; have NB303_292 := nr BK292 hg; replace BK292 := am (bb BK292 hb); have NB293_303 := nl BK293 hg; have NB303_293 := nr BK293 hg; replace BK293 := am (bb BK293 hb); clear hb hbox hg
                         refine hK.out _ _ ⟨bc BK290 0, bc BK290 1, bc BK291 0, bc BK291 1⟩ (fun hHeld => ?_)
                         clear hK K
                         refine norm_ (a' := ?_) ?_ ?_
                         rotate_left
                         · show Act.put _ (some 8) _ = _
                           simp only [Act.put, List.setIfInBounds_toArray, List.set_cons_zero, List.set_cons_succ, i64_w, i32_w]
                           rfl
                         exact nm (hJ1_3_9 (gb303) _ ⟨hHeld, (bq BK290), (bq BK291), (bq BK292), (bq BK293), (bq BK303), GW303.out, NB290_303.out, NB303_290.out, NB291_303.out, NB303_291.out, NB292_303.out, NB303_292.out, NB293_303.out, NB303_293.out, bz⟩)
                   · skip
                     rintro ⟨gb302, gb303⟩ w35 h_; dsimp only at h_; obtain ⟨hS_, h0_, h1_, h2_, h3_, h4_, h5_, h6_, h8_, h9_, h10_, h11_, h12_, h13_, h14_, h15_, h16_, h17_, h18_, h20_, h21_, h22_, h23_, h24_, h25_, h26_, h27_, h28_⟩ := h_; replace BK290 := am h0_; replace BK291 := am h1_; replace BK292 := am h2_; replace BK293 := am h3_; have BK302 := am h4_; have BK303 := am h5_; have GW302 := am h6_; have NB290_302 := am h8_; have NB302_290 := am h9_; have NB291_302 := am h10_; have NB302_291 := am h11_; have NB292_302 := am h12_; have NB302_292 := am h13_; have NB293_302 := am h14_; have NB302_293 := am h15_; have NB303_302 := am h16_; have NB302_303 := am h17_; have GW303 := am h18_; have NB290_303 := am h20_; have NB303_290 := am h21_; have NB291_303 := am h22_; have NB303_291 := am h23_; have NB292_303 := am h24_; have NB303_292 := am h25_; have NB293_303 := am h26_; have NB303_293 := am h27_; replace HB := am h28_; clear h0_ h1_ h2_ h3_ h4_ h5_ h6_ h8_ h9_ h10_ h11_ h12_ h13_ h14_ h15_ h16_ h17_ h18_ h20_ h21_ h22_ h23_ h24_ h25_ h26_ h27_ h28_; have hHeld : w35.cell? ⟨gb290, 0, none⟩ = some (.int .i64 a0_0) ∧ w35.cell? ⟨gb290, 1, none⟩ = some (.int .u64 a0_1) ∧ w35.cell? ⟨gb291, 0, none⟩ = some (.int .i64 a1_0) ∧ w35.cell? ⟨gb291, 1, none⟩ = some (.int .u64 a1_1) := hS_
                     refine norm_ (a' := ?_) ?_ ?_
                     rotate_left
                     · simp only [putAll, Act.put, List.setIfInBounds_toArray, List.set_cons_zero, List.set_cons_succ]
                       rfl
                     refine one_ (i := 3) (N := some 22) #[true, true, true, true, false, false, false, false, true, true, false, false] rfl rfl (one_of HT_.out (by kernel_rfl)) (by decide) (fun K hK => ?_)
                     refine goes_ Tryd.func64 (by kernel_rfl) rfl #[.agg #[.int .i64 a1_0, .int .u64 a1_1]] (by rfl) rfl rfl rf ?_
                     with_reducible refine (wide_amount.calls a1_0 a1_1 t296 t297 _ A18.out).mono ?_
                     rintro e w36 ⟨rfl, hb⟩; refine ⟨_, rfl, ?_⟩; replace BK290 := am (bb BK290 hb); replace BK291 := am (bb BK291 hb); replace BK292 := am (bb BK292 hb); replace BK293 := am (bb BK293 hb); replace BK302 := am (bb BK302 hb); replace BK303 := am (bb BK303 hb); replace HB := am (below_step bz hb); (try clear hb); (try clear hb2); (try clear hk); (try clear hi)
                     refine hK.out _ _ ⟨bc BK290 0, bc BK290 1, bc BK291 0, bc BK291 1⟩ (fun hHeld => ?_)
                     clear hK K
                     refine norm_ (a' := ?_) ?_ ?_
                     rotate_left
                     · show Act.put _ (some 22) _ = _
                       simp only [Act.put, List.setIfInBounds_toArray, List.set_cons_zero, List.set_cons_succ, i64_w, i32_w]
                       rfl
                     exact nm (hJ1_3_8_9 (gb302, gb303) _ ⟨hHeld, (bq BK290), (bq BK291), (bq BK292), (bq BK293), (bq BK302), (bq BK303), GW302.out, NB290_302.out, NB302_290.out, NB291_302.out, NB302_291.out, NB292_302.out, NB302_292.out, NB293_302.out, NB302_293.out, NB303_302.out, NB302_303.out, GW303.out, NB290_303.out, NB303_290.out, NB291_303.out, NB303_291.out, NB292_303.out, NB303_292.out, NB293_303.out, NB303_293.out, bz⟩)
                 · skip
                   rintro gb303 w35 h_; obtain ⟨hS_, h0_, h1_, h2_, h3_, h4_, h5_, h7_, h8_, h9_, h10_, h11_, h12_, h13_, h14_, h15_⟩ := h_; replace BK290 := am h0_; replace BK291 := am h1_; replace BK292 := am h2_; replace BK293 := am h3_; have BK303 := am h4_; have GW303 := am h5_; have NB290_303 := am h7_; have NB303_290 := am h8_; have NB291_303 := am h9_; have NB303_291 := am h10_; have NB292_303 := am h11_; have NB303_292 := am h12_; have NB293_303 := am h13_; have NB303_293 := am h14_; replace HB := am h15_; clear h0_ h1_ h2_ h3_ h4_ h5_ h7_ h8_ h9_ h10_ h11_ h12_ h13_ h14_ h15_; have hHeld : w35.cell? ⟨gb290, 0, none⟩ = some (.int .i64 a0_0) ∧ w35.cell? ⟨gb290, 1, none⟩ = some (.int .u64 a0_1) ∧ w35.cell? ⟨gb291, 0, none⟩ = some (.int .i64 a1_0) ∧ w35.cell? ⟨gb291, 1, none⟩ = some (.int .u64 a1_1) := hS_
                   refine norm_ (a' := ?_) ?_ ?_
                   rotate_left
                   · simp only [putAll, Act.put, List.setIfInBounds_toArray, List.set_cons_zero, List.set_cons_succ]
                     rfl
                   refine two_ (i := 4) (j := 8) (Ni := some 23) (Nj := some 7) #[true, true, true, true, true, false, false, false, false, true, false, false] #[true, true, true, true, false, false, false, false, true, true, false, false] rfl rfl rfl rfl (two_of HT_.out (by kernel_rfl)) (by decide) (by decide) (fun K hK => ?_) (fun K hK => ?_)
                   · skip
                     refine goes_ Tryd.func65 (by kernel_rfl) rfl #[.agg #[.int .u64 t294, .int .u64 t295], .agg #[.int .u64 t296, .int .u64 t297]] (by rfl) rfl rfl rf ?_
                     with_reducible refine (wide_divided.calls k t294 t295 t296 t297 t298 t299 t300 t301 _ A19.out).mono ?_
                     rintro e w36 ⟨rfl, hb⟩; refine ⟨_, rfl, ?_⟩; replace BK290 := am (bb BK290 hb); replace BK291 := am (bb BK291 hb); replace BK292 := am (bb BK292 hb); replace BK293 := am (bb BK293 hb); replace BK303 := am (bb BK303 hb); replace HB := am (below_step bz hb); (try clear hb); (try clear hb2); (try clear hk); (try clear hi)
                     refine hK.out _ _ ⟨bc BK290 0, bc BK290 1, bc BK291 0, bc BK291 1⟩ (fun hHeld => ?_)
                     clear hK K
                     refine norm_ (a' := ?_) ?_ ?_
                     rotate_left
                     · show Act.put _ (some 23) _ = _
                       simp only [Act.put, List.setIfInBounds_toArray, List.set_cons_zero, List.set_cons_succ, i64_w, i32_w]
                       rfl
                     refine pure_ (i := 5) (N := some 18) (v := ?_) (a' := ?_) #[true, true, true, true, true, true, false, false, false, true, false, false] rfl rfl (any_of HT_.out (by kernel_rfl)) (fun _ _ _ h => h) (Or.inl ⟨by rfl, ?_⟩) ?_ ?_
                     rotate_left; · intro w'; go_simp; with_reducible rfl
                     rotate_left; · simp only [Act.put, List.setIfInBounds_toArray, List.set_cons_zero, List.set_cons_succ, i64_w, i32_w]; rfl
                     refine pure_ (i := 6) (N := some 24) (v := ?_) (a' := ?_) #[true, true, true, true, true, true, true, false, false, true, false, false] rfl rfl (any_of HT_.out (by kernel_rfl)) (fun _ _ _ h => h) (Or.inl ⟨by rfl, ?_⟩) ?_ ?_
                     rotate_left; · intro w'; go_simp; with_reducible rfl
                     rotate_left; · simp only [Act.put, List.setIfInBounds_toArray, List.set_cons_zero, List.set_cons_succ, i64_w, i32_w]; rfl
                     refine pure_ (i := 7) (N := some 25) (v := ?_) (a' := ?_) #[true, true, true, true, true, true, true, true, false, true, false, false] rfl rfl (any_of HT_.out (by kernel_rfl)) (fun _ _ _ h => h) (Or.inl ⟨by rfl, ?_⟩) ?_ ?_
                     rotate_left; · intro w'; go_simp; with_reducible rfl
                     rotate_left; · simp only [Act.put, List.setIfInBounds_toArray, List.set_cons_zero, List.set_cons_succ, i64_w, i32_w]; rfl
                     exact nm (hJ1_3_4_9 (gb303) _ ⟨hHeld, (bq BK290), (bq BK291), (bq BK292), (bq BK293), (bq BK303), GW303.out, NB290_303.out, NB303_290.out, NB291_303.out, NB303_291.out, NB292_303.out, NB303_292.out, NB293_303.out, NB303_293.out, bz⟩)
                   · skip
                     refine box_step (by rfl) (N := 7) (by rfl) (cs := #[.int .u64 0, .int .u64 0]) (t := 62) (by go_simp <;> rfl) ?_
                     intro gb302 hg w36 hbox hb; have BK302 := am (hbox); have GW302 := gw w hg; replace HB := am (below_step bz hb); have NB290_302 := nl BK290 hg; have NB302_290 := nr BK290 hg; replace BK290 := am (bb BK290 hb); have NB291_302 := nl BK291 hg; have NB302_291 := nr BK291 hg; replace BK291 := am (bb BK291 hb); have NB292_302 := nl BK292 hg; have NB302_292 := nr BK292 hg; replace BK292 := am (bb BK292 hb); have NB293_302 := nl BK293 hg; have NB302_293 := nr BK293 hg; replace BK293 := am (bb BK293 hb); have NB303_302 := nl BK303 hg; have NB302_303 := nr BK303 hg; replace BK303 := am (bb BK303 hb); clear hb hbox hg
                     refine hK.out _ _ ⟨bc BK290 0, bc BK290 1, bc BK291 0, bc BK291 1⟩ (fun hHeld => ?_)
                     clear hK K
                     refine norm_ (a' := ?_) ?_ ?_
                     rotate_left
                     · show Act.put _ (some 7) _ = _
                       simp only [Act.put, List.setIfInBounds_toArray, List.set_cons_zero, List.set_cons_succ, i64_w, i32_w]
                       rfl
                     exact nm (hJ1_3_8_9 (gb302, gb303) _ ⟨hHeld, (bq BK290), (bq BK291), (bq BK292), (bq BK293), (bq BK302), (bq BK303), GW302.out, NB290_302.out, NB302_290.out, NB291_302.out, NB302_291.out, NB292_302.out, NB302_292.out, NB293_302.out, NB302_293.out, NB303_302.out, NB302_303.out, GW303.out, NB290_303.out, NB303_290.out, NB291_303.out, NB303_291.out, NB292_303.out, NB303_292.out, NB293_303.out, NB303_293.out, bz⟩)
               · skip
                 rintro gb302 w35 h_; obtain ⟨hS_, h0_, h1_, h2_, h3_, h4_, h5_, h7_, h8_, h9_, h10_, h11_, h12_, h13_, h14_, h15_⟩ := h_; replace BK290 := am h0_; replace BK291 := am h1_; replace BK292 := am h2_; replace BK293 := am h3_; have BK302 := am h4_; have GW302 := am h5_; have NB290_302 := am h7_; have NB302_290 := am h8_; have NB291_302 := am h9_; have NB302_291 := am h10_; have NB292_302 := am h11_; have NB302_292 := am h12_; have NB293_302 := am h13_; have NB302_293 := am h14_; replace HB := am h15_; clear h0_ h1_ h2_ h3_ h4_ h5_ h7_ h8_ h9_ h10_ h11_ h12_ h13_ h14_ h15_; have hHeld : w35.cell? ⟨gb290, 0, none⟩ = some (.int .i64 a0_0) ∧ w35.cell? ⟨gb290, 1, none⟩ = some (.int .u64 a0_1) ∧ w35.cell? ⟨gb291, 0, none⟩ = some (.int .i64 a1_0) ∧ w35.cell? ⟨gb291, 1, none⟩ = some (.int .u64 a1_1) := hS_
                 refine norm_ (a' := ?_) ?_ ?_
                 rotate_left
                 · simp only [putAll, Act.put, List.setIfInBounds_toArray, List.set_cons_zero, List.set_cons_succ]
                   rfl
                 refine two_ (i := 4) (j := 9) (Ni := some 23) (Nj := some 8) #[true, true, true, true, true, false, false, false, true, false, false, false] #[true, true, true, true, false, false, false, false, true, true, false, false] rfl rfl rfl rfl (two_of HT_.out (by kernel_rfl)) (by decide) (by decide) (fun K hK => ?_) (fun K hK => ?_)
                 · skip
                   refine goes_ Tryd.func65 (by kernel_rfl) rfl #[.agg #[.int .u64 t294, .int .u64 t295], .agg #[.int .u64 t296, .int .u64 t297]] (by rfl) rfl rfl rf ?_
                   with_reducible refine (wide_divided.calls k t294 t295 t296 t297 t298 t299 t300 t301 _ A19.out).mono ?_
                   rintro e w36 ⟨rfl, hb⟩; refine ⟨_, rfl, ?_⟩; replace BK290 := am (bb BK290 hb); replace BK291 := am (bb BK291 hb); replace BK292 := am (bb BK292 hb); replace BK293 := am (bb BK293 hb); replace BK302 := am (bb BK302 hb); replace HB := am (below_step bz hb); (try clear hb); (try clear hb2); (try clear hk); (try clear hi)
                   refine hK.out _ _ ⟨bc BK290 0, bc BK290 1, bc BK291 0, bc BK291 1⟩ (fun hHeld => ?_)
                   clear hK K
                   refine norm_ (a' := ?_) ?_ ?_
                   rotate_left
                   · show Act.put _ (some 23) _ = _
                     simp only [Act.put, List.setIfInBounds_toArray, List.set_cons_zero, List.set_cons_succ, i64_w, i32_w]
                     rfl
                   refine pure_ (i := 5) (N := some 18) (v := ?_) (a' := ?_) #[true, true, true, true, true, true, false, false, true, false, false, false] rfl rfl (any_of HT_.out (by kernel_rfl)) (fun _ _ _ h => h) (Or.inl ⟨by rfl, ?_⟩) ?_ ?_
                   rotate_left; · intro w'; go_simp; with_reducible rfl
                   rotate_left; · simp only [Act.put, List.setIfInBounds_toArray, List.set_cons_zero, List.set_cons_succ, i64_w, i32_w]; rfl
                   refine pure_ (i := 6) (N := some 24) (v := ?_) (a' := ?_) #[true, true, true, true, true, true, true, false, true, false, false, false] rfl rfl (any_of HT_.out (by kernel_rfl)) (fun _ _ _ h => h) (Or.inl ⟨by rfl, ?_⟩) ?_ ?_
                   rotate_left; · intro w'; go_simp; with_reducible rfl
                   rotate_left; · simp only [Act.put, List.setIfInBounds_toArray, List.set_cons_zero, List.set_cons_succ, i64_w, i32_w]; rfl
                   refine pure_ (i := 7) (N := some 25) (v := ?_) (a' := ?_) #[true, true, true, true, true, true, true, true, true, false, false, false] rfl rfl (any_of HT_.out (by kernel_rfl)) (fun _ _ _ h => h) (Or.inl ⟨by rfl, ?_⟩) ?_ ?_
                   rotate_left; · intro w'; go_simp; with_reducible rfl
                   rotate_left; · simp only [Act.put, List.setIfInBounds_toArray, List.set_cons_zero, List.set_cons_succ, i64_w, i32_w]; rfl
                   exact nm (hJ1_3_4_8 (gb302) _ ⟨hHeld, (bq BK290), (bq BK291), (bq BK292), (bq BK293), (bq BK302), GW302.out, NB290_302.out, NB302_290.out, NB291_302.out, NB302_291.out, NB292_302.out, NB302_292.out, NB293_302.out, NB302_293.out, bz⟩)
                 · skip
                   refine box_step (by rfl) (N := 8) (by rfl) (cs := #[.int .u64 0, .int .u64 0]) (t := 62) (by go_simp <;> rfl) ?_
                   intro gb303 hg w36 hbox hb; have BK303 := am (hbox); have GW303 := gw w hg; replace HB := am (below_step bz hb); have NB290_303 := nl BK290 hg; have NB303_290 := nr BK290 hg; replace BK290 := am (bb BK290 hb); have NB291_303 := nl BK291 hg; have NB303_291 := nr BK291 hg; replace BK291 := am (bb BK291 hb); have NB292_303 := nl BK292 hg; have NB303_292 := nr BK292 hg; replace BK292 := am (bb BK292 hb); have NB293_303 := nl BK293 hg; have NB303_293 := nr BK293 hg; replace BK293 := am (bb BK293 hb); have NB302_303 := nl BK302 hg; have NB303_302 := nr BK302 hg; replace BK302 := am (bb BK302 hb); clear hb hbox hg
                   refine hK.out _ _ ⟨bc BK290 0, bc BK290 1, bc BK291 0, bc BK291 1⟩ (fun hHeld => ?_)
                   clear hK K
                   refine norm_ (a' := ?_) ?_ ?_
                   rotate_left
                   · show Act.put _ (some 8) _ = _
                     simp only [Act.put, List.setIfInBounds_toArray, List.set_cons_zero, List.set_cons_succ, i64_w, i32_w]
                     rfl
                   exact nm (hJ1_3_8_9 (gb302, gb303) _ ⟨hHeld, (bq BK290), (bq BK291), (bq BK292), (bq BK293), (bq BK302), (bq BK303), GW302.out, NB290_302.out, NB302_290.out, NB291_302.out, NB302_291.out, NB292_302.out, NB302_292.out, NB293_302.out, NB302_293.out, NB303_302.out, NB302_303.out, GW303.out, NB290_303.out, NB303_290.out, NB291_303.out, NB303_291.out, NB292_303.out, NB303_292.out, NB293_303.out, NB303_293.out, bz⟩)
             · skip
               rintro _ w35 h_; obtain ⟨hS_, h0_, h1_, h2_, h3_, h4_⟩ := h_; replace BK290 := am h0_; replace BK291 := am h1_; replace BK292 := am h2_; replace BK293 := am h3_; replace HB := am h4_; clear h0_ h1_ h2_ h3_ h4_; have hHeld : w35.cell? ⟨gb290, 0, none⟩ = some (.int .i64 a0_0) ∧ w35.cell? ⟨gb290, 1, none⟩ = some (.int .u64 a0_1) ∧ w35.cell? ⟨gb291, 0, none⟩ = some (.int .i64 a1_0) ∧ w35.cell? ⟨gb291, 1, none⟩ = some (.int .u64 a1_1) := hS_
               refine norm_ (a' := ?_) ?_ ?_
               rotate_left
               · simp only [putAll, Act.put, List.setIfInBounds_toArray, List.set_cons_zero, List.set_cons_succ]
                 rfl
               refine two_ (i := 8) (j := 9) (Ni := some 7) (Nj := some 8) #[true, true, true, true, true, true, true, true, true, false, false, false] #[true, true, true, true, true, true, true, true, false, true, false, false] rfl rfl rfl rfl (two_of HT_.out (by kernel_rfl)) (by decide) (by decide) (fun K hK => ?_) (fun K hK => ?_)
               · skip
                 refine box_step (by rfl) (N := 7) (by rfl) (cs := #[.int .u64 0, .int .u64 0]) (t := 62) (by go_simp <;> rfl) ?_
                 intro gb302 hg w36 hbox hb; have BK302 := am (hbox); have GW302 := gw w hg; replace HB := am (below_step bz hb); have NB290_302 := nl BK290 hg; have NB302_290 := nr BK290 hg; replace BK290 := am (bb BK290 hb); have NB291_302 := nl BK291 hg; have NB302_291 := nr BK291 hg; replace BK291 := am (bb BK291 hb); have NB292_302 := nl BK292 hg; have NB302_292 := nr BK292 hg; replace BK292 := am (bb BK292 hb); have NB293_302 := nl BK293 hg; have NB302_293 := nr BK293 hg; replace BK293 := am (bb BK293 hb); clear hb hbox hg
                 refine hK.out _ _ ⟨bc BK290 0, bc BK290 1, bc BK291 0, bc BK291 1⟩ (fun hHeld => ?_)
                 clear hK K
                 refine norm_ (a' := ?_) ?_ ?_
                 rotate_left
                 · show Act.put _ (some 7) _ = _
                   simp only [Act.put, List.setIfInBounds_toArray, List.set_cons_zero, List.set_cons_succ, i64_w, i32_w]
                   rfl
                 exact nm (hJ1_3_4_8 (gb302) _ ⟨hHeld, (bq BK290), (bq BK291), (bq BK292), (bq BK293), (bq BK302), GW302.out, NB290_302.out, NB302_290.out, NB291_302.out, NB302_291.out, NB292_302.out, NB302_292.out, NB293_302.out, NB302_293.out, bz⟩)
               · skip
                 refine box_step (by rfl) (N := 8) (by rfl) (cs := #[.int .u64 0, .int .u64 0]) (t := 62) (by go_simp <;> rfl) ?_
                 intro gb303 hg w36 hbox hb; have BK303 := am (hbox); have GW303 := gw w hg; replace HB := am (below_step bz hb); have NB290_303 := nl BK290 hg; have NB303_290 := nr BK290 hg; replace BK290 := am (bb BK290 hb); have NB291_303 := nl BK291 hg; have NB303_291 := nr BK291 hg; replace BK291 := am (bb BK291 hb); have NB292_303 := nl BK292 hg; have NB303_292 := nr BK292 hg; replace BK292 := am (bb BK292 hb); have NB293_303 := nl BK293 hg; have NB303_293 := nr BK293 hg; replace BK293 := am (bb BK293 hb); clear hb hbox hg
                 refine hK.out _ _ ⟨bc BK290 0, bc BK290 1, bc BK291 0, bc BK291 1⟩ (fun hHeld => ?_)
                 clear hK K
                 refine norm_ (a' := ?_) ?_ ?_
                 rotate_left
                 · show Act.put _ (some 8) _ = _
                   simp only [Act.put, List.setIfInBounds_toArray, List.set_cons_zero, List.set_cons_succ, i64_w, i32_w]
                   rfl
                 exact nm (hJ1_3_4_9 (gb303) _ ⟨hHeld, (bq BK290), (bq BK291), (bq BK292), (bq BK293), (bq BK303), GW303.out, NB290_303.out, NB303_290.out, NB291_303.out, NB303_291.out, NB292_303.out, NB303_292.out, NB293_303.out, NB303_293.out, bz⟩)
           · skip
             rintro ⟨gb302, gb303⟩ w36 h_; dsimp only at h_; obtain ⟨hS_, h0_, h1_, h2_, h3_, h4_, h5_, h6_, h8_, h9_, h10_, h11_, h12_, h13_, h14_, h15_, h16_, h17_, h18_, h20_, h21_, h22_, h23_, h24_, h25_, h26_, h27_, h28_⟩ := h_; replace BK290 := am h0_; replace BK291 := am h1_; replace BK292 := am h2_; replace BK293 := am h3_; have BK302 := am h4_; have BK303 := am h5_; have GW302 := am h6_; have NB290_302 := am h8_; have NB302_290 := am h9_; have NB291_302 := am h10_; have NB302_291 := am h11_; have NB292_302 := am h12_; have NB302_292 := am h13_; have NB293_302 := am h14_; have NB302_293 := am h15_; have NB303_302 := am h16_; have NB302_303 := am h17_; have GW303 := am h18_; have NB290_303 := am h20_; have NB303_290 := am h21_; have NB291_303 := am h22_; have NB303_291 := am h23_; have NB292_303 := am h24_; have NB303_292 := am h25_; have NB293_303 := am h26_; have NB303_293 := am h27_; replace HB := am h28_; clear h0_ h1_ h2_ h3_ h4_ h5_ h6_ h8_ h9_ h10_ h11_ h12_ h13_ h14_ h15_ h16_ h17_ h18_ h20_ h21_ h22_ h23_ h24_ h25_ h26_ h27_ h28_; have hHeld : w36.cell? ⟨gb290, 0, none⟩ = some (.int .i64 a0_0) ∧ w36.cell? ⟨gb290, 1, none⟩ = some (.int .u64 a0_1) ∧ w36.cell? ⟨gb291, 0, none⟩ = some (.int .i64 a1_0) ∧ w36.cell? ⟨gb291, 1, none⟩ = some (.int .u64 a1_1) := hS_
             refine norm_ (a' := ?_) ?_ ?_
             rotate_left
             · simp only [putAll, Act.put, List.setIfInBounds_toArray, List.set_cons_zero, List.set_cons_succ]
               rfl
             refine one_ (i := 4) (N := some 23) #[true, true, true, true, true, false, false, false, true, true, false, false] rfl rfl (one_of HT_.out (by kernel_rfl)) (by decide) (fun K hK => ?_)
             refine goes_ Tryd.func65 (by kernel_rfl) rfl #[.agg #[.int .u64 t294, .int .u64 t295], .agg #[.int .u64 t296, .int .u64 t297]] (by rfl) rfl rfl rf ?_
             with_reducible refine (wide_divided.calls k t294 t295 t296 t297 t298 t299 t300 t301 _ A19.out).mono ?_
             rintro e w37 ⟨rfl, hb⟩; refine ⟨_, rfl, ?_⟩; replace BK290 := am (bb BK290 hb); replace BK291 := am (bb BK291 hb); replace BK292 := am (bb BK292 hb); replace BK293 := am (bb BK293 hb); replace BK302 := am (bb BK302 hb); replace BK303 := am (bb BK303 hb); replace HB := am (below_step bz hb); (try clear hb); (try clear hb2); (try clear hk); (try clear hi)
             refine hK.out _ _ ⟨bc BK290 0, bc BK290 1, bc BK291 0, bc BK291 1⟩ (fun hHeld => ?_)
             clear hK K
             refine norm_ (a' := ?_) ?_ ?_
             rotate_left
             · show Act.put _ (some 23) _ = _
               simp only [Act.put, List.setIfInBounds_toArray, List.set_cons_zero, List.set_cons_succ, i64_w, i32_w]
               rfl
             refine pure_ (i := 5) (N := some 18) (v := ?_) (a' := ?_) #[true, true, true, true, true, true, false, false, true, true, false, false] rfl rfl (any_of HT_.out (by kernel_rfl)) (fun _ _ _ h => h) (Or.inl ⟨by rfl, ?_⟩) ?_ ?_
             rotate_left; · intro w'; go_simp; with_reducible rfl
             rotate_left; · simp only [Act.put, List.setIfInBounds_toArray, List.set_cons_zero, List.set_cons_succ, i64_w, i32_w]; rfl
             refine pure_ (i := 6) (N := some 24) (v := ?_) (a' := ?_) #[true, true, true, true, true, true, true, false, true, true, false, false] rfl rfl (any_of HT_.out (by kernel_rfl)) (fun _ _ _ h => h) (Or.inl ⟨by rfl, ?_⟩) ?_ ?_
             rotate_left; · intro w'; go_simp; with_reducible rfl
             rotate_left; · simp only [Act.put, List.setIfInBounds_toArray, List.set_cons_zero, List.set_cons_succ, i64_w, i32_w]; rfl
             refine pure_ (i := 7) (N := some 25) (v := ?_) (a' := ?_) #[true, true, true, true, true, true, true, true, true, true, false, false] rfl rfl (any_of HT_.out (by kernel_rfl)) (fun _ _ _ h => h) (Or.inl ⟨by rfl, ?_⟩) ?_ ?_
             rotate_left; · intro w'; go_simp; with_reducible rfl
             rotate_left; · simp only [Act.put, List.setIfInBounds_toArray, List.set_cons_zero, List.set_cons_succ, i64_w, i32_w]; rfl
             exact nm (hJ1_3_4_8_9 (gb302, gb303) _ ⟨hHeld, (bq BK290), (bq BK291), (bq BK292), (bq BK293), (bq BK302), (bq BK303), GW302.out, NB290_302.out, NB302_290.out, NB291_302.out, NB302_291.out, NB292_302.out, NB302_292.out, NB293_302.out, NB302_293.out, NB303_302.out, NB302_303.out, GW303.out, NB290_303.out, NB303_290.out, NB291_303.out, NB303_291.out, NB292_303.out, NB303_292.out, NB293_303.out, NB303_293.out, bz⟩)
         · skip
           rintro gb303 w36 h_; obtain ⟨hS_, h0_, h1_, h2_, h3_, h4_, h5_, h7_, h8_, h9_, h10_, h11_, h12_, h13_, h14_, h15_⟩ := h_; replace BK290 := am h0_; replace BK291 := am h1_; replace BK292 := am h2_; replace BK293 := am h3_; have BK303 := am h4_; have GW303 := am h5_; have NB290_303 := am h7_; have NB303_290 := am h8_; have NB291_303 := am h9_; have NB303_291 := am h10_; have NB292_303 := am h11_; have NB303_292 := am h12_; have NB293_303 := am h13_; have NB303_293 := am h14_; replace HB := am h15_; clear h0_ h1_ h2_ h3_ h4_ h5_ h7_ h8_ h9_ h10_ h11_ h12_ h13_ h14_ h15_; have hHeld : w36.cell? ⟨gb290, 0, none⟩ = some (.int .i64 a0_0) ∧ w36.cell? ⟨gb290, 1, none⟩ = some (.int .u64 a0_1) ∧ w36.cell? ⟨gb291, 0, none⟩ = some (.int .i64 a1_0) ∧ w36.cell? ⟨gb291, 1, none⟩ = some (.int .u64 a1_1) := hS_
           refine norm_ (a' := ?_) ?_ ?_
           rotate_left
           · simp only [putAll, Act.put, List.setIfInBounds_toArray, List.set_cons_zero, List.set_cons_succ]
             rfl
           refine one_ (i := 8) (N := some 7) #[true, true, true, true, true, true, true, true, true, true, false, false] rfl rfl (one_of HT_.out (by kernel_rfl)) (by decide) (fun K hK => ?_)
           refine box_step (by rfl) (N := 7) (by rfl) (cs := #[.int .u64 0, .int .u64 0]) (t := 62) (by go_simp <;> rfl) ?_
           intro gb302 hg w37 hbox hb; have BK302 := am (hbox); have GW302 := gw w hg; replace HB := am (below_step bz hb); have NB290_302 := nl BK290 hg; have NB302_290 := nr BK290 hg; replace BK290 := am (bb BK290 hb); have NB291_302 := nl BK291 hg; have NB302_291 := nr BK291 hg; replace BK291 := am (bb BK291 hb); have NB292_302 := nl BK292 hg; have NB302_292 := nr BK292 hg; replace BK292 := am (bb BK292 hb); have NB293_302 := nl BK293 hg; have NB302_293 := nr BK293 hg; replace BK293 := am (bb BK293 hb); have NB303_302 := nl BK303 hg; have NB302_303 := nr BK303 hg; replace BK303 := am (bb BK303 hb); clear hb hbox hg
           refine hK.out _ _ ⟨bc BK290 0, bc BK290 1, bc BK291 0, bc BK291 1⟩ (fun hHeld => ?_)
           clear hK K
           refine norm_ (a' := ?_) ?_ ?_
           rotate_left
           · show Act.put _ (some 7) _ = _
             simp only [Act.put, List.setIfInBounds_toArray, List.set_cons_zero, List.set_cons_succ, i64_w, i32_w]
             rfl
           exact nm (hJ1_3_4_8_9 (gb302, gb303) _ ⟨hHeld, (bq BK290), (bq BK291), (bq BK292), (bq BK293), (bq BK302), (bq BK303), GW302.out, NB290_302.out, NB302_290.out, NB291_302.out, NB302_291.out, NB292_302.out, NB302_292.out, NB293_302.out, NB302_293.out, NB303_302.out, NB302_303.out, GW303.out, NB290_303.out, NB303_290.out, NB291_303.out, NB303_291.out, NB292_303.out, NB303_292.out, NB293_303.out, NB303_293.out, bz⟩)
       · skip
         rintro gb302 w36 h_; obtain ⟨hS_, h0_, h1_, h2_, h3_, h4_, h5_, h7_, h8_, h9_, h10_, h11_, h12_, h13_, h14_, h15_⟩ := h_; replace BK290 := am h0_; replace BK291 := am h1_; replace BK292 := am h2_; replace BK293 := am h3_; have BK302 := am h4_; have GW302 := am h5_; have NB290_302 := am h7_; have NB302_290 := am h8_; have NB291_302 := am h9_; have NB302_291 := am h10_; have NB292_302 := am h11_; have NB302_292 := am h12_; have NB293_302 := am h13_; have NB302_293 := am h14_; replace HB := am h15_; clear h0_ h1_ h2_ h3_ h4_ h5_ h7_ h8_ h9_ h10_ h11_ h12_ h13_ h14_ h15_; have hHeld : w36.cell? ⟨gb290, 0, none⟩ = some (.int .i64 a0_0) ∧ w36.cell? ⟨gb290, 1, none⟩ = some (.int .u64 a0_1) ∧ w36.cell? ⟨gb291, 0, none⟩ = some (.int .i64 a1_0) ∧ w36.cell? ⟨gb291, 1, none⟩ = some (.int .u64 a1_1) := hS_
         refine norm_ (a' := ?_) ?_ ?_
         rotate_left
         · simp only [putAll, Act.put, List.setIfInBounds_toArray, List.set_cons_zero, List.set_cons_succ]
           rfl
         refine one_ (i := 9) (N := some 8) #[true, true, true, true, true, true, true, true, true, true, false, false] rfl rfl (one_of HT_.out (by kernel_rfl)) (by decide) (fun K hK => ?_)
         refine box_step (by rfl) (N := 8) (by rfl) (cs := #[.int .u64 0, .int .u64 0]) (t := 62) (by go_simp <;> rfl) ?_
         intro gb303 hg w37 hbox hb; have BK303 := am (hbox); have GW303 := gw w hg; replace HB := am (below_step bz hb); have NB290_303 := nl BK290 hg; have NB303_290 := nr BK290 hg; replace BK290 := am (bb BK290 hb); have NB291_303 := nl BK291 hg; have NB303_291 := nr BK291 hg; replace BK291 := am (bb BK291 hb); have NB292_303 := nl BK292 hg; have NB303_292 := nr BK292 hg; replace BK292 := am (bb BK292 hb); have NB293_303 := nl BK293 hg; have NB303_293 := nr BK293 hg; replace BK293 := am (bb BK293 hb); have NB302_303 := nl BK302 hg; have NB303_302 := nr BK302 hg; replace BK302 := am (bb BK302 hb); clear hb hbox hg
         refine hK.out _ _ ⟨bc BK290 0, bc BK290 1, bc BK291 0, bc BK291 1⟩ (fun hHeld => ?_)
         clear hK K
         refine norm_ (a' := ?_) ?_ ?_
         rotate_left
         · show Act.put _ (some 8) _ = _
           simp only [Act.put, List.setIfInBounds_toArray, List.set_cons_zero, List.set_cons_succ, i64_w, i32_w]
           rfl
         exact nm (hJ1_3_4_8_9 (gb302, gb303) _ ⟨hHeld, (bq BK290), (bq BK291), (bq BK292), (bq BK293), (bq BK302), (bq BK303), GW302.out, NB290_302.out, NB302_290.out, NB291_302.out, NB302_291.out, NB292_302.out, NB302_292.out, NB293_302.out, NB302_293.out, NB303_302.out, NB302_303.out, GW303.out, NB290_303.out, NB303_290.out, NB291_303.out, NB303_291.out, NB292_303.out, NB303_292.out, NB293_303.out, NB303_293.out, bz⟩)
     rintro ⟨gb302, gb303⟩ w37 h_; dsimp only at h_; obtain ⟨hS_, h0_, h1_, h2_, h3_, h4_, h5_, h6_, h8_, h9_, h10_, h11_, h12_, h13_, h14_, h15_, h16_, h17_, h18_, h20_, h21_, h22_, h23_, h24_, h25_, h26_, h27_, h28_⟩ := h_; replace BK290 := am h0_; replace BK291 := am h1_; replace BK292 := am h2_; replace BK293 := am h3_; have BK302 := am h4_; have BK303 := am h5_; have GW302 := am h6_; have NB290_302 := am h8_; have NB302_290 := am h9_; have NB291_302 := am h10_; have NB302_291 := am h11_; have NB292_302 := am h12_; have NB302_292 := am h13_; have NB293_302 := am h14_; have NB302_293 := am h15_; have NB303_302 := am h16_; have NB302_303 := am h17_; have GW303 := am h18_; have NB290_303 := am h20_; have NB303_290 := am h21_; have NB291_303 := am h22_; have NB303_291 := am h23_; have NB292_303 := am h24_; have NB303_292 := am h25_; have NB293_303 := am h26_; have NB303_293 := am h27_; replace HB := am h28_; clear h0_ h1_ h2_ h3_ h4_ h5_ h6_ h8_ h9_ h10_ h11_ h12_ h13_ h14_ h15_ h16_ h17_ h18_ h20_ h21_ h22_ h23_ h24_ h25_ h26_ h27_ h28_; have hHeld : w37.cell? ⟨gb290, 0, none⟩ = some (.int .i64 a0_0) ∧ w37.cell? ⟨gb290, 1, none⟩ = some (.int .u64 a0_1) ∧ w37.cell? ⟨gb291, 0, none⟩ = some (.int .i64 a1_0) ∧ w37.cell? ⟨gb291, 1, none⟩ = some (.int .u64 a1_1) := hS_
     refine norm_ (a' := ?_) ?_ ?_
     rotate_left
     · simp only [putAll, Act.put, List.setIfInBounds_toArray, List.set_cons_zero, List.set_cons_succ]
       rfl
     refine one_ (i := 10) (N := none) #[true, true, true, true, true, true, true, true, true, true, true, false] rfl rfl (one_of HT_.out (by kernel_rfl)) (by decide) (fun K hK => ?_)
     have hs38 : w37.cell? ⟨gb302, 0, none⟩ = some (.int .u64 0) := bc BK302 0; have hfs38 := blk_frozen BK302.out 0; have hns38_0 := NB290_302.out; have hns38_1 := NB291_302.out; have hns38_2 := NB292_302.out; have hns38_3 := NB293_302.out; have hns38_5 := NB303_302.out; have hms38_0 := NB302_290.out; have hms38_1 := NB302_291.out; have hms38_2 := NB302_292.out; have hms38_3 := NB302_293.out; have hms38_5 := NB302_303.out; have hs39 : w37.cell? ⟨gb302, 1, none⟩ = some (.int .u64 0) := bc BK302 1; have hfs39 := blk_frozen BK302.out 1; have hns39_0 := NB290_302.out; have hns39_1 := NB291_302.out; have hns39_2 := NB292_302.out; have hns39_3 := NB293_302.out; have hns39_5 := NB303_302.out; have hms39_0 := NB302_290.out; have hms39_1 := NB302_291.out; have hms39_2 := NB302_292.out; have hms39_3 := NB302_293.out; have hms39_5 := NB302_303.out
     refine skip_ (w1 := ?_) (by rfl) rfl ?_ ?_
     rotate_left
     · go_simp
       rfl
     refine hK.out _ _ ⟨((cell_far (p := ⟨gb302, _, none⟩) NB290_302.out _).trans (((cell_far (p := ⟨gb302, _, none⟩) NB290_302.out _).trans (hHeld.1)))), ((cell_far (p := ⟨gb302, _, none⟩) NB290_302.out _).trans (((cell_far (p := ⟨gb302, _, none⟩) NB290_302.out _).trans (hHeld.2.1)))), ((cell_far (p := ⟨gb302, _, none⟩) NB291_302.out _).trans (((cell_far (p := ⟨gb302, _, none⟩) NB291_302.out _).trans (hHeld.2.2.1)))), ((cell_far (p := ⟨gb302, _, none⟩) NB291_302.out _).trans (((cell_far (p := ⟨gb302, _, none⟩) NB291_302.out _).trans (hHeld.2.2.2))))⟩ (fun hHeld => ?_)
     clear hK K
     refine one_ (i := 11) (N := none) #[true, true, true, true, true, true, true, true, true, true, true, true] rfl rfl (one_of HT_.out (by kernel_rfl)) (by decide) (fun K hK => ?_)
     have hs40 : w37.cell? ⟨gb303, 0, none⟩ = some (.int .u64 0) := bc BK303 0; have hfs40 := blk_frozen BK303.out 0; have hns40_0 := NB290_303.out; have hns40_1 := NB291_303.out; have hns40_2 := NB292_303.out; have hns40_3 := NB293_303.out; have hns40_4 := NB302_303.out; have hms40_0 := NB303_290.out; have hms40_1 := NB303_291.out; have hms40_2 := NB303_292.out; have hms40_3 := NB303_293.out; have hms40_4 := NB303_302.out; have hs41 : w37.cell? ⟨gb303, 1, none⟩ = some (.int .u64 0) := bc BK303 1; have hfs41 := blk_frozen BK303.out 1; have hns41_0 := NB290_303.out; have hns41_1 := NB291_303.out; have hns41_2 := NB292_303.out; have hns41_3 := NB293_303.out; have hns41_4 := NB302_303.out; have hms41_0 := NB303_290.out; have hms41_1 := NB303_291.out; have hms41_2 := NB303_292.out; have hms41_3 := NB303_293.out; have hms41_4 := NB303_302.out
     refine skip_ (w1 := ?_) (by rfl) rfl ?_ ?_
     rotate_left
     · go_simp
       rfl
     refine hK.out _ _ ⟨((cell_far (p := ⟨gb303, _, none⟩) NB290_303.out _).trans (((cell_far (p := ⟨gb303, _, none⟩) NB290_303.out _).trans (hHeld.1)))), ((cell_far (p := ⟨gb303, _, none⟩) NB290_303.out _).trans (((cell_far (p := ⟨gb303, _, none⟩) NB290_303.out _).trans (hHeld.2.1)))), ((cell_far (p := ⟨gb303, _, none⟩) NB291_303.out _).trans (((cell_far (p := ⟨gb303, _, none⟩) NB291_303.out _).trans (hHeld.2.2.1)))), ((cell_far (p := ⟨gb303, _, none⟩) NB291_303.out _).trans (((cell_far (p := ⟨gb303, _, none⟩) NB291_303.out _).trans (hHeld.2.2.2))))⟩ (fun hHeld => ?_)
     clear hK K
     refine done_ (done_of HT_.out (by kernel_rfl)) ?_
     have hnb42 := NB302_290.out; have hnc42 := NB290_302.out; have hnb43 := NB302_291.out; have hnc43 := NB291_302.out; have hnb44 := NB302_292.out; have hnc44 := NB292_302.out; have hnb45 := NB302_293.out; have hnc45 := NB293_302.out; have hnb46 := NB302_303.out; have hnc46 := NB303_302.out; have hcz47_0 : w37.cell? ⟨gb302, 0, none⟩ = some (.int .u64 0) := bc BK302 0; have hcz47_1 : w37.cell? ⟨gb302, 1, none⟩ = some (.int .u64 0) := bc BK302 1; have hfz47_0 := blk_frozen BK302.out 0; have hfz47_1 := blk_frozen BK302.out 1; have hnb48 := NB290_292.out; have hnc48 := NB292_290.out; have hnb49 := NB290_293.out; have hnc49 := NB293_290.out; have hnb50 := NB290_303.out; have hnc50 := NB303_290.out; have hcz51_0 : w37.cell? ⟨gb290, 0, none⟩ = some (.int .i64 a0_0) := bc BK290 0; have hcz51_1 : w37.cell? ⟨gb290, 1, none⟩ = some (.int .u64 a0_1) := bc BK290 1; have hfz51_0 := blk_frozen BK290.out 0; have hfz51_1 := blk_frozen BK290.out 1; have hnb52 := NB291_303.out; have hnc52 := NB303_291.out; have hcz53_0 : w37.cell? ⟨gb291, 0, none⟩ = some (.int .i64 a1_0) := bc BK291 0; have hcz53_1 : w37.cell? ⟨gb291, 1, none⟩ = some (.int .u64 a1_1) := bc BK291 1; have hfz53_0 := blk_frozen BK291.out 0; have hfz53_1 := blk_frozen BK291.out 1
     try go_wp2_with (first | ((with_reducible refine gate_callee (f := 72) rfl ?_); refine goesL_ (some 35) rfl rfl Tryd.func72 (by kernel_rfl) rfl #[.agg #[.int .u64 t298, .int .u64 t299], .bool ((decide (a0_0 < 0)) != (decide (a1_0 < 0)))] rfl rf ?_; (with_reducible refine (wide_signed.calls k t298 t299 ((decide (a0_0 < 0)) != (decide (a1_0 < 0))) t304 t305 t306 _ A20.out).mono ?_); rintro e w54 ⟨rfl, hb⟩; refine ⟨_, rfl, ?_⟩; replace BK290 := am (blk_below (g := gb290) (o := .cells #[.int .i64 a0_0, .int .u64 a0_1] 24 (0, 0)) kg hb); replace BK291 := am (blk_below (g := gb291) (o := .cells #[.int .i64 a1_0, .int .u64 a1_1] 24 (0, 0)) kg hb); replace BK292 := am (blk_below (g := gb292) (o := .cells #[.int .i64 0, .int .u64 0] 24 (0, 0)) kg hb); replace BK293 := am (blk_below (g := gb293) (o := .cells #[.int .i64 0, .int .u64 0] 24 (0, 0)) kg hb); replace BK302 := am (blk_below (g := gb302) (o := .cells #[.int .u64 t298, .int .u64 t299] 62 (0, 0)) (blk_far (blk_far (blk_put (blk_put BK302.out 0 _ rfl) 1 _ rfl) NB302_303.out _) NB302_303.out _) hb); replace BK303 := am (blk_below (g := gb303) (o := .cells #[.int .u64 t300, .int .u64 t301] 62 (0, 0)) (blk_put (blk_put (blk_far (blk_far BK303.out NB303_302.out _) NB303_302.out _) 0 _ rfl) 1 _ rfl) hb); replace HB := am (below_step bz hb); (try clear hb); (try clear hb2); (try clear hk); (try clear hi)) | ((with_reducible refine gate_dst (N := 9) rfl ?_); refine box_event (by rfl) (N := 9) (by rfl) (cs := #[.int .i64 0, .int .u64 0]) (t := 24) (by go_simp <;> rfl) ?_; intro gb307 hg w55 hbox hb; have BK307 := am (hbox); have GW307 := gw w hg; replace HB := am (below_step bz hb); have NB290_307 := nl BK290 hg; have NB307_290 := nr BK290 hg; replace BK290 := am (bb BK290 hb); have NB291_307 := nl BK291 hg; have NB307_291 := nr BK291 hg; replace BK291 := am (bb BK291 hb); have NB292_307 := nl BK292 hg; have NB307_292 := nr BK292 hg; replace BK292 := am (bb BK292 hb); have NB293_307 := nl BK293 hg; have NB307_293 := nr BK293 hg; replace BK293 := am (bb BK293 hb); have NB302_307 := nl BK302 hg; have NB307_302 := nr BK302 hg; replace BK302 := am (bb BK302 hb); have NB303_307 := nl BK303 hg; have NB307_303 := nr BK303 hg; replace BK303 := am (bb BK303 hb); clear hb hbox hg; have hnb56 := NB307_290.out; have hnc56 := NB290_307.out; have hnb57 := NB307_291.out; have hnc57 := NB291_307.out; have hnb58 := NB307_292.out; have hnc58 := NB292_307.out; have hnb59 := NB307_293.out; have hnc59 := NB293_307.out; have hnb60 := NB307_302.out; have hnc60 := NB302_307.out; have hnb61 := NB307_303.out; have hnc61 := NB303_307.out; have hcz62_0 : w55.cell? ⟨gb307, 0, none⟩ = some (.int .i64 0) := bc BK307 0; have hcz62_1 : w55.cell? ⟨gb307, 1, none⟩ = some (.int .u64 0) := bc BK307 1; have hfz62_0 := blk_frozen BK307.out 0; have hfz62_1 := blk_frozen BK307.out 1; have hnb63 := NB303_292.out; have hnc63 := NB292_303.out; have hnb64 := NB303_293.out; have hnc64 := NB293_303.out; have hcz65_0 : w55.cell? ⟨gb303, 0, none⟩ = some (.int .u64 t300) := bc BK303 0; have hcz65_1 : w55.cell? ⟨gb303, 1, none⟩ = some (.int .u64 t301) := bc BK303 1; have hfz65_0 := blk_frozen BK303.out 0; have hfz65_1 := blk_frozen BK303.out 1; have hcz66_0 : w55.cell? ⟨gb290, 0, none⟩ = some (.int .i64 a0_0) := bc BK290 0; have hcz66_1 : w55.cell? ⟨gb290, 1, none⟩ = some (.int .u64 a0_1) := bc BK290 1; have hfz66_0 := blk_frozen BK290.out 0; have hfz66_1 := blk_frozen BK290.out 1) | ((with_reducible refine gate_callee (f := 72) rfl ?_); refine goesL_ (some 48) rfl rfl Tryd.func72 (by kernel_rfl) rfl #[.agg #[.int .u64 t300, .int .u64 t301], .bool (decide (a0_0 < 0))] rfl rf ?_; (with_reducible refine (wide_signed.calls k t300 t301 (decide (a0_0 < 0)) t308 t309 t310 _ A22.out).mono ?_); rintro e w67 ⟨rfl, hb⟩; refine ⟨_, rfl, ?_⟩; replace BK290 := am (blk_below (g := gb290) (o := .cells #[.int .i64 a0_0, .int .u64 a0_1] 24 (0, 0)) kg hb); replace BK291 := am (blk_below (g := gb291) (o := .cells #[.int .i64 a1_0, .int .u64 a1_1] 24 (0, 0)) kg hb); replace BK292 := am (blk_below (g := gb292) (o := .cells #[.int .i64 0, .int .u64 0] 24 (0, 0)) kg hb); replace BK293 := am (blk_below (g := gb293) (o := .cells #[.int .i64 0, .int .u64 0] 24 (0, 0)) kg hb); replace BK302 := am (blk_below (g := gb302) (o := .cells #[.int .u64 t298, .int .u64 t299] 62 (0, 0)) kg hb); replace BK303 := am (blk_below (g := gb303) (o := .cells #[.int .u64 t300, .int .u64 t301] 62 (0, 0)) kg hb); replace BK307 := am (blk_below (g := gb307) (o := .cells #[.int .i64 t304, .int .u64 t305] 24 (0, 0)) (blk_put (blk_put BK307.out 0 _ rfl) 1 _ rfl) hb); replace HB := am (below_step bz hb); (try clear hb); (try clear hb2); (try clear hk); (try clear hi)) | ((with_reducible refine gate_dst (N := 11) rfl ?_); refine box_event (by rfl) (N := 11) (by rfl) (cs := #[.int .i64 0, .int .u64 0]) (t := 24) (by go_simp <;> rfl) ?_; intro gb311 hg w68 hbox hb; have BK311 := am (hbox); have GW311 := gw w hg; replace HB := am (below_step bz hb); have NB290_311 := nl BK290 hg; have NB311_290 := nr BK290 hg; replace BK290 := am (bb BK290 hb); have NB291_311 := nl BK291 hg; have NB311_291 := nr BK291 hg; replace BK291 := am (bb BK291 hb); have NB292_311 := nl BK292 hg; have NB311_292 := nr BK292 hg; replace BK292 := am (bb BK292 hb); have NB293_311 := nl BK293 hg; have NB311_293 := nr BK293 hg; replace BK293 := am (bb BK293 hb); have NB302_311 := nl BK302 hg; have NB311_302 := nr BK302 hg; replace BK302 := am (bb BK302 hb); have NB303_311 := nl BK303 hg; have NB311_303 := nr BK303 hg; replace BK303 := am (bb BK303 hb); have NB307_311 := nl BK307 hg; have NB311_307 := nr BK307 hg; replace BK307 := am (bb BK307 hb); clear hb hbox hg; have hnb69 := NB311_290.out; have hnc69 := NB290_311.out; have hnb70 := NB311_291.out; have hnc70 := NB291_311.out; have hnb71 := NB311_292.out; have hnc71 := NB292_311.out; have hnb72 := NB311_293.out; have hnc72 := NB293_311.out; have hnb73 := NB311_302.out; have hnc73 := NB302_311.out; have hnb74 := NB311_303.out; have hnc74 := NB303_311.out; have hnb75 := NB311_307.out; have hnc75 := NB307_311.out; have hcz76_0 : w68.cell? ⟨gb311, 0, none⟩ = some (.int .i64 0) := bc BK311 0; have hcz76_1 : w68.cell? ⟨gb311, 1, none⟩ = some (.int .u64 0) := bc BK311 1; have hfz76_0 := blk_frozen BK311.out 0; have hfz76_1 := blk_frozen BK311.out 1))
     have n0_ : Aside0 (((w68.setCell ⟨gb311, 0, none⟩ (.int .i64 t308)).setCell ⟨gb311, 1, none⟩ (.int .u64 t309)).heap[gb290]? = some (.cells #[.int .i64 a0_0, .int .u64 a0_1] 24 (0, 0))) := kf; have n1_ : Aside0 (((w68.setCell ⟨gb311, 0, none⟩ (.int .i64 t308)).setCell ⟨gb311, 1, none⟩ (.int .u64 t309)).heap[gb291]? = some (.cells #[.int .i64 a1_0, .int .u64 a1_1] 24 (0, 0))) := kf; have n2_ : Aside0 (((w68.setCell ⟨gb311, 0, none⟩ (.int .i64 t308)).setCell ⟨gb311, 1, none⟩ (.int .u64 t309)).heap[gb292]? = some (.cells #[.int .i64 0, .int .u64 0] 24 (0, 0))) := kf; have n3_ : Aside0 (((w68.setCell ⟨gb311, 0, none⟩ (.int .i64 t308)).setCell ⟨gb311, 1, none⟩ (.int .u64 t309)).heap[gb293]? = some (.cells #[.int .i64 0, .int .u64 0] 24 (0, 0))) := kf; have n4_ : Aside0 (((w68.setCell ⟨gb311, 0, none⟩ (.int .i64 t308)).setCell ⟨gb311, 1, none⟩ (.int .u64 t309)).heap[gb302]? = some (.cells #[.int .u64 t298, .int .u64 t299] 62 (0, 0))) := kf; have n5_ : Aside0 (((w68.setCell ⟨gb311, 0, none⟩ (.int .i64 t308)).setCell ⟨gb311, 1, none⟩ (.int .u64 t309)).heap[gb303]? = some (.cells #[.int .u64 t300, .int .u64 t301] 62 (0, 0))) := kf; have n6_ : Aside0 (((w68.setCell ⟨gb311, 0, none⟩ (.int .i64 t308)).setCell ⟨gb311, 1, none⟩ (.int .u64 t309)).heap[gb307]? = some (.cells #[.int .i64 t304, .int .u64 t305] 24 (0, 0))) := kf; have n7_ : Aside0 (((w68.setCell ⟨gb311, 0, none⟩ (.int .i64 t308)).setCell ⟨gb311, 1, none⟩ (.int .u64 t309)).heap[gb311]? = some (.cells #[.int .i64 t308, .int .u64 t309] 24 (0, 0))) := ⟨blk_put (blk_put BK311.out 0 _ rfl) 1 _ rfl⟩; have n8_ : Aside0 (Below w.heap.size w ((w68.setCell ⟨gb311, 0, none⟩ (.int .i64 t308)).setCell ⟨gb311, 1, none⟩ (.int .u64 t309))) := ⟨bz⟩; (try clear BK290); (try clear BK291); (try clear BK292); (try clear BK293); (try clear BK302); (try clear BK303); (try clear BK307); (try clear BK311); (try clear HB); generalize ((w68.setCell ⟨gb311, 0, none⟩ (.int .i64 t308)).setCell ⟨gb311, 1, none⟩ (.int .u64 t309)) = w77 at n0_ n1_ n2_ n3_ n4_ n5_ n6_ n7_ n8_ ⊢; have BK290 := n0_; have BK291 := n1_; have BK292 := n2_; have BK293 := n3_; have BK302 := n4_; have BK303 := n5_; have BK307 := n6_; have BK311 := n7_; have HB := n8_; clear n0_ n1_ n2_ n3_ n4_ n5_ n6_ n7_ n8_; replace BK290 := am (blk_drew BK290.out); replace BK291 := am (blk_drew BK291.out); replace BK292 := am (blk_drew BK292.out); replace BK293 := am (blk_drew BK293.out); replace BK302 := am (blk_drew BK302.out); replace BK303 := am (blk_drew BK303.out); replace BK307 := am (blk_drew BK307.out); replace BK311 := am (blk_drew BK311.out); replace HB := am (below_drew1 HB.out)
     refine start_ (n := 5) (S := fun w' => w'.cell? ⟨gb307, 0, none⟩ = some (.int .i64 t304) ∧ w'.cell? ⟨gb307, 1, none⟩ = some (.int .u64 t305) ∧ w'.cell? ⟨gb311, 0, none⟩ = some (.int .i64 t308) ∧ w'.cell? ⟨gb311, 1, none⟩ = some (.int .u64 t309)) (ds := []) #[false, false, false, false, false] (by kernel_rfl) rfl rfl ⟨bc BK307 0, bc BK307 1, bc BK311 0, bc BK311 1⟩ (fun hHeld => ?_)
     generalize w77.drew = w78 at BK290 BK291 BK292 BK293 BK302 BK303 BK307 BK311 HB hHeld ⊢
     refine take_ (i := 0) (N := some 51) (v := ?_) (a' := ?_) #[true, false, false, false, false] rfl rfl (by kernel_rfl) (fun _ _ _ h => h) (Or.inl ⟨by rfl, ?_⟩) hHeld ?_ ?_
     rotate_left
     · rintro w' ⟨s0, s1, s2, s3⟩
       go_simp
       with_reducible rfl
     rotate_left
     · simp only [Act.put, List.setIfInBounds_toArray, List.set_cons_zero, List.set_cons_succ, i64_w, i32_w]
       rfl
     refine take_ (i := 1) (N := some 52) (v := ?_) (a' := ?_) #[true, true, false, false, false] rfl rfl (by kernel_rfl) (fun _ _ _ h => h) (Or.inl ⟨by rfl, ?_⟩) hHeld ?_ ?_
     rotate_left
     · rintro w' ⟨s0, s1, s2, s3⟩
       go_simp
       with_reducible rfl
     rotate_left
     · simp only [Act.put, List.setIfInBounds_toArray, List.set_cons_zero, List.set_cons_succ, i64_w, i32_w]
       rfl
     refine one_ (i := 2) (N := none) #[true, true, true, false, false] rfl rfl (by kernel_rfl) (by decide) (fun K hK => ?_)
     have hs79 : w78.cell? ⟨gb292, 0, none⟩ = some (.int .i64 0) := bc BK292 0; have hfs79 := blk_frozen BK292.out 0; have hns79_0 := NB290_292.out; have hns79_1 := NB291_292.out; have hns79_3 := NB293_292.out; have hns79_4 := NB302_292.out; have hns79_5 := NB303_292.out; have hns79_6 := NB307_292.out; have hns79_7 := NB311_292.out; have hms79_0 := NB292_290.out; have hms79_1 := NB292_291.out; have hms79_3 := NB292_293.out; have hms79_4 := NB292_302.out; have hms79_5 := NB292_303.out; have hms79_6 := NB292_307.out; have hms79_7 := NB292_311.out; have hs80 : w78.cell? ⟨gb292, 1, none⟩ = some (.int .u64 0) := bc BK292 1; have hfs80 := blk_frozen BK292.out 1; have hns80_0 := NB290_292.out; have hns80_1 := NB291_292.out; have hns80_3 := NB293_292.out; have hns80_4 := NB302_292.out; have hns80_5 := NB303_292.out; have hns80_6 := NB307_292.out; have hns80_7 := NB311_292.out; have hms80_0 := NB292_290.out; have hms80_1 := NB292_291.out; have hms80_3 := NB292_293.out; have hms80_4 := NB292_302.out; have hms80_5 := NB292_303.out; have hms80_6 := NB292_307.out; have hms80_7 := NB292_311.out
     refine skip_ (w1 := ?_) (by rfl) rfl ?_ ?_
     rotate_left
     · go_simp
       rfl
     refine hK.out _ _ ⟨((cell_far (p := ⟨gb292, _, none⟩) NB307_292.out _).trans (((cell_far (p := ⟨gb292, _, none⟩) NB307_292.out _).trans (hHeld.1)))), ((cell_far (p := ⟨gb292, _, none⟩) NB307_292.out _).trans (((cell_far (p := ⟨gb292, _, none⟩) NB307_292.out _).trans (hHeld.2.1)))), ((cell_far (p := ⟨gb292, _, none⟩) NB311_292.out _).trans (((cell_far (p := ⟨gb292, _, none⟩) NB311_292.out _).trans (hHeld.2.2.1)))), ((cell_far (p := ⟨gb292, _, none⟩) NB311_292.out _).trans (((cell_far (p := ⟨gb292, _, none⟩) NB311_292.out _).trans (hHeld.2.2.2))))⟩ (fun hHeld => ?_)
     clear hK K
     refine one_ (i := 3) (N := none) #[true, true, true, true, false] rfl rfl (by kernel_rfl) (by decide) (fun K hK => ?_)
     have hs81 : w78.cell? ⟨gb293, 0, none⟩ = some (.int .i64 0) := bc BK293 0; have hfs81 := blk_frozen BK293.out 0; have hns81_0 := NB290_293.out; have hns81_1 := NB291_293.out; have hns81_2 := NB292_293.out; have hns81_4 := NB302_293.out; have hns81_5 := NB303_293.out; have hns81_6 := NB307_293.out; have hns81_7 := NB311_293.out; have hms81_0 := NB293_290.out; have hms81_1 := NB293_291.out; have hms81_2 := NB293_292.out; have hms81_4 := NB293_302.out; have hms81_5 := NB293_303.out; have hms81_6 := NB293_307.out; have hms81_7 := NB293_311.out; have hs82 : w78.cell? ⟨gb293, 1, none⟩ = some (.int .u64 0) := bc BK293 1; have hfs82 := blk_frozen BK293.out 1; have hns82_0 := NB290_293.out; have hns82_1 := NB291_293.out; have hns82_2 := NB292_293.out; have hns82_4 := NB302_293.out; have hns82_5 := NB303_293.out; have hns82_6 := NB307_293.out; have hns82_7 := NB311_293.out; have hms82_0 := NB293_290.out; have hms82_1 := NB293_291.out; have hms82_2 := NB293_292.out; have hms82_4 := NB293_302.out; have hms82_5 := NB293_303.out; have hms82_6 := NB293_307.out; have hms82_7 := NB293_311.out
     refine skip_ (w1 := ?_) (by rfl) rfl ?_ ?_
     rotate_left
     · go_simp
       rfl
     refine hK.out _ _ ⟨((cell_far (p := ⟨gb293, _, none⟩) NB307_293.out _).trans (((cell_far (p := ⟨gb293, _, none⟩) NB307_293.out _).trans (hHeld.1)))), ((cell_far (p := ⟨gb293, _, none⟩) NB307_293.out _).trans (((cell_far (p := ⟨gb293, _, none⟩) NB307_293.out _).trans (hHeld.2.1)))), ((cell_far (p := ⟨gb293, _, none⟩) NB311_293.out _).trans (((cell_far (p := ⟨gb293, _, none⟩) NB311_293.out _).trans (hHeld.2.2.1)))), ((cell_far (p := ⟨gb293, _, none⟩) NB311_293.out _).trans (((cell_far (p := ⟨gb293, _, none⟩) NB311_293.out _).trans (hHeld.2.2.2))))⟩ (fun hHeld => ?_)
     clear hK K
     refine pure_ (i := 4) (N := some 6) (v := ?_) (a' := ?_) #[true, true, true, true, true] rfl rfl (by kernel_rfl) (fun _ _ _ h => h) (Or.inl ⟨by rfl, ?_⟩) ?_ ?_
     rotate_left; · intro w'; go_simp; with_reducible rfl
     rotate_left; · simp only [Act.put, List.setIfInBounds_toArray, List.set_cons_zero, List.set_cons_succ, i64_w, i32_w]; rfl
     refine done_ (by kernel_rfl) ?_
     try go_wp2
     refine bodyPost_ret (results_list (rs := [.cell 4 24, .cell 5 24, .tmp 6]) rfl (by simp) (.cell gb292 24 #[.int .i64 t304, .int .u64 t305] (0, 0) _ rfl (blk_far (blk_far (blk_put (blk_put BK292.out 0 _ rfl) 1 _ rfl) NB292_293.out _) NB292_293.out _) Tryd.underlying24 rfl (by kernel_rfl) (.cell gb293 24 #[.int .i64 t308, .int .u64 t309] (0, 0) _ rfl (blk_put (blk_put (blk_far (blk_far BK293.out NB293_292.out _) NB293_292.out _) 0 _ rfl) 1 _ rfl) Tryd.underlying24 rfl (by kernel_rfl) (.tmp .nil)))) rfl ?_
     exact ⟨rg, bz⟩
   · rw [if_neg c21] at H
     have c21b0 : (t306 == 0) = false := beq_eq_false_iff_ne.mpr c21; have c21b1 : (t306 != 0) = true := bne_iff_ne.mpr c21
     simp only [Option.some.injEq, Prod.mk.injEq] at H
     obtain ⟨rfl, rfl, rfl, rfl, rfl⟩ := H
     exact absurd hr (by simpa using c21b0)
end Go.Proofs.YtcfhmbhlibhlnaaDoor.P
