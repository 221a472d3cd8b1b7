-- Printed by this session's own pp.py (wip/tool) out of the translation.
import Derived.Test.YtcfhmbhlibhlnaaDoorPx0
import Derived.Test.YtcfhmbhlibhlnaaDoorPxf81
import Derived.Test.YtcfhmbhlibhlnaaDoorPxf108
import Derived.Test.YtcfhmbhlibhlnaaDoorPxf109
import Derived.Test.YtcfhmbhlibhlnaaDoorPxf110
namespace Go.Proofs.YtcfhmbhlibhlnaaDoor.P
open Go.RowKit Go.Proofs.YtcfhmbhlibhlnaaDoorW.PrintWords Go.Proofs.YtcfhmbhlibhlnaaDoorW.PrintLast Go.Proofs.YtcfhmbhlibhlnaaDoorW.PrintMore Go.Proofs.YtcfhmbhlibhlnaaDoor.Mine
attribute [local go_sem] ext71 ext79 eqA61 eqA62
attribute [local go_sem] max2_int min2_int max_two min_two max_three min_three max_four min_four   -- for this text's walks alone
set_option linter.unusedVariables false
set_option linter.unusedSimpArgs false

/-! ### tumblerref01_AddN: function 77 -/
def tumblerref01_AddN.f (k : Nat) (a0_0 : Bool) (l0_1 : List Int) (a1_0 : Bool) (l1_1 : List Int) : Option (Bool × List Int) := if (a0_0 == a1_0) = true then ((tumblerref01_addL.f k l0_1 l1_1).bind fun t435 => ((tumblerref01_make2.f k a0_0 t435).bind fun bt438 => (some (bt438.1, bt438.2)))) else ((tumblerref01_cmpL.f k l0_1 l1_1).bind fun t442 => (if t442 ≥ 0 then ((tumblerref01_subL.f k l0_1 l1_1).bind fun t443 => ((tumblerref01_make2.f k a0_0 t443).bind fun bt446 => (some (bt446.1, bt446.2)))) else ((tumblerref01_subL.f k l1_1 l0_1).bind fun t450 => ((tumblerref01_make2.f k a1_0 t450).bind fun bt453 => (some (bt453.1, bt453.2))))))
theorem tumblerref01_AddN.mono : ∀ a0 a1 a2 a3 k, LeO (tumblerref01_AddN.f k a0 a1 a2 a3) (tumblerref01_AddN.f (k + 1) a0 a1 a2 a3) := by
 intro a0 a1 a2 a3 k
 unfold tumblerref01_AddN.f
 repeat' first
  | (with_reducible exact tumblerref01_addL.mono _ _ _)
  | (with_reducible exact tumblerref01_cmpL.mono _ _ _)
  | (with_reducible exact tumblerref01_make2.mono _ _ _)
  | (with_reducible exact tumblerref01_subL.mono _ _ _)
  | (with_reducible exact LeO.refl _)
  | (with_reducible exact LeO.none _)
  | (with_reducible refine LeO.ite ?_ ?_)
  | (with_reducible refine LeO.bind ?_ (fun _ => ?_))
  | exact tumblerref01_addL.mono _ _ _
  | exact tumblerref01_cmpL.mono _ _ _
  | exact tumblerref01_make2.mono _ _ _
  | exact tumblerref01_subL.mono _ _ _
  | exact LeO.none _
  | refine LeO.ite ?_ ?_
  | refine LeO.bind ?_ (fun _ => ?_)
def tumblerref01_AddN.T2 : Bool × List (List Nat × List Nat) := (true, [([], []), ([0], [0]), ([], []), ([2], [2]), ([], []), ([4], [4]), ([3, 5], [3, 5]), ([1, 6, 6], [1, 6]), ([7, 7, 0, 1, 2, 3, 4, 5, 6, 7], [7])])
def tumblerref01_AddN.B2 : List Nat := [0, 1, 0, 4, 0, 16, 60, 127, 255]
theorem tumblerref01_AddN.tab2 : rtab .any (opsOf Tryd.f77 2) = tumblerref01_AddN.T2 := by kernel_rfl
theorem tumblerref01_AddN.bits2 : waitsOk tumblerref01_AddN.T2.2 tumblerref01_AddN.B2 = true := by kernel_rfl
def tumblerref01_AddN.T4 : Bool × List (List Nat × List Nat) := (true, [([], []), ([0], [0]), ([], []), ([2], [2]), ([], []), ([4], [4]), ([3, 5], [3, 5]), ([1, 6, 6], [1, 6]), ([7, 7, 0, 1, 2, 3, 4, 5, 6, 7], [7])])
def tumblerref01_AddN.B4 : List Nat := [0, 1, 0, 4, 0, 16, 60, 127, 255]
theorem tumblerref01_AddN.tab4 : rtab .any (opsOf Tryd.f77 4) = tumblerref01_AddN.T4 := by kernel_rfl
theorem tumblerref01_AddN.bits4 : waitsOk tumblerref01_AddN.T4.2 tumblerref01_AddN.B4 = true := by kernel_rfl
def tumblerref01_AddN.T5 : Bool × List (List Nat × List Nat) := (true, [([], []), ([0], [0]), ([], []), ([2], [2]), ([], []), ([4], [4]), ([3, 5], [3, 5]), ([1, 6, 6], [1, 6]), ([7, 7, 0, 1, 2, 3, 4, 5, 6, 7], [7])])
def tumblerref01_AddN.B5 : List Nat := [0, 1, 0, 4, 0, 16, 60, 127, 255]
theorem tumblerref01_AddN.tab5 : rtab .any (opsOf Tryd.f77 5) = tumblerref01_AddN.T5 := by kernel_rfl
theorem tumblerref01_AddN.bits5 : waitsOk tumblerref01_AddN.T5.2 tumblerref01_AddN.B5 = true := by kernel_rfl
set_option maxHeartbeats 8000000 in
set_option maxRecDepth 100000 in
theorem tumblerref01_AddN.calls (k : Nat) (a0_0 : Bool) (A0_1 : Option Addr) (c0_1 : Nat) (l0_1 : List Int) (a1_0 : Bool) (A1_1 : Option Addr) (c1_1 : Nat) (l1_1 : List Int) (r1 : Bool) (r2 : List Int) (w : World) (hr0_1 : Kd.C (Kd.int .u32) w A0_1 l0_1.length l0_1) (hc0_1 : l0_1.length ≤ c0_1) (hr1_1 : Kd.C (Kd.int .u32) w A1_1 l1_1.length l1_1) (hc1_1 : l1_1.length ≤ c1_1) (h : tumblerref01_AddN.f k a0_0 l0_1 a1_0 l1_1 = some (r1, r2)) :
 Calls Tryd.prog 77 #[.agg #[.bool a0_0, .slice A0_1 l0_1.length c0_1], .agg #[.bool a1_0, .slice A1_1 l1_1.length c1_1]] w fun e w' => ∃ v1_ : Value, e = .returned (.agg #[.bool r1, v1_]) ∧ Kd.V (Kd.int .u32) 121 w' w.heap.size (fun k_ => (w.heap.size ≤ k_)) v1_ r2 ∧ Below w.heap.size w w' := by
 have hu71 := Tryd.underlying71; have HR0_1 := Aside0.mk hr0_1; have HC0_1 := Aside0.mk hc0_1; clear hr0_1 hc0_1; have HR1_1 := Aside0.mk hr1_1; have HC1_1 := Aside0.mk hc1_1; clear hr1_1 hc1_1; have HB := am (Below.refl w.heap.size w); have H : (if (a0_0 == a1_0) = true then ((tumblerref01_addL.f k l0_1 l1_1).bind fun t435 => ((tumblerref01_make2.f k a0_0 t435).bind fun bt438 => (some (bt438.1, bt438.2)))) else ((tumblerref01_cmpL.f k l0_1 l1_1).bind fun t442 => (if t442 ≥ 0 then ((tumblerref01_subL.f k l0_1 l1_1).bind fun t443 => ((tumblerref01_make2.f k a0_0 t443).bind fun bt446 => (some (bt446.1, bt446.2)))) else ((tumblerref01_subL.f k l1_1 l0_1).bind fun t450 => ((tumblerref01_make2.f k a1_0 t450).bind fun bt453 => (some (bt453.1, bt453.2))))))) = some (r1, r2) := h; clear h
 by_cases c3 : (a0_0 == a1_0) = true
 · rw [if_pos c3] at H
   have c3b0 : (a0_0 == a1_0) = true := c3; (try (have c3b1 : decide (a0_0 = a1_0) = true := by simpa using c3)); (try (have c3b2 : (a0_0 == a1_0) = true := by simpa using c3)); clear c3
   replace H := Option.bind_eq_some_iff.mp H
   obtain ⟨t435, A40, H⟩ := H
   replace H : ((tumblerref01_make2.f k a0_0 t435).bind fun bt438 => (some (bt438.1, bt438.2))) = some (r1, r2) := H
   have A4 := Aside0.mk A40; clear A40
   replace H := Option.bind_eq_some_iff.mp H
   obtain ⟨⟨t438, t439⟩, A50, H⟩ := H
   replace H : (some (t438, t439)) = some (r1, r2) := H
   have A5 := Aside0.mk A50; clear A50
   simp only [Option.some.injEq, Prod.mk.injEq] at H
   obtain ⟨rfl, rfl⟩ := H
   go_enter Tryd.func77, Tryd.ntmps77
   try go_wp2_with (first | ((with_reducible refine gate_dst (N := 2) rfl ?_); refine box_event ?hg (N := 2) ?hd (cs := #[.bool a0_0, .slice A0_1 l0_1.length c0_1]) (t := 71) ?hr ?_; (case hd => rfl); (case hg => rfl); (case hr => first | (go_simp; done) | (go_simp; rfl)); intro gb432 hg w6 hbox hb; have n0_ := am (below_step bz hb); have n1_ := am (hbox); have n2_ := am ((by rw [hg]; exact (below_size bz) : w.heap.size ≤ gb432)); have n3_ := am ((by rw [hg]; exact (below_size bz) : w.heap.size ≤ gb432)); clear HB; have HB := n0_; have BK432 := n1_; have GW432 := n2_; have GE432 := n3_; clear n0_ n1_ n2_ n3_; clear hb hbox hg) | ((with_reducible refine gate_dst (N := 3) rfl ?_); refine box_event ?hg (N := 3) ?hd (cs := #[.bool a1_0, .slice A1_1 l1_1.length c1_1]) (t := 71) ?hr ?_; (case hd => rfl); (case hg => rfl); (case hr => first | (go_simp; done) | (go_simp; rfl)); intro gb433 hg w7 hbox hb; have n0_ := am (bb BK432 hb); have n1_ := am (below_step bz hb); have n2_ := am (hbox); have n3_ := am ((by rw [hg]; exact (below_size bz) : w.heap.size ≤ gb433)); have n4_ := am ((by rw [hg]; exact (below_size bz) : w.heap.size ≤ gb433)); have n5_ := am ((by rw [hg]; exact Nat.ne_of_lt (bl BK432) : gb432 ≠ gb433)); have n6_ := am ((by rw [hg]; exact Nat.ne_of_gt (bl BK432) : gb433 ≠ gb432)); clear BK432; clear HB; have BK432 := n0_; have HB := n1_; have BK433 := n2_; have GW433 := n3_; have GE433 := n4_; have NB432_433 := n5_; have NB433_432 := n6_; clear n0_ n1_ n2_ n3_ n4_ n5_ n6_; clear hb hbox hg) | ((with_reducible refine gate_dst (N := 4) rfl ?_); refine box_event ?hg (N := 4) ?hd (cs := #[.bool false, .slice none 0 0]) (t := 71) ?hr ?_; (case hd => rfl); (case hg => rfl); (case hr => first | (go_simp; done) | (go_simp; rfl)); intro gb434 hg w8 hbox hb; have n0_ := am (bb BK432 hb); have n1_ := am (bb BK433 hb); have n2_ := am (below_step bz hb); have n3_ := am (hbox); have n4_ := am ((by rw [hg]; exact (below_size bz) : w.heap.size ≤ gb434)); have n5_ := am ((by rw [hg]; exact (below_size bz) : w.heap.size ≤ gb434)); have n6_ := am ((by rw [hg]; exact Nat.ne_of_lt (bl BK432) : gb432 ≠ gb434)); have n7_ := am ((by rw [hg]; exact Nat.ne_of_gt (bl BK432) : gb434 ≠ gb432)); have n8_ := am ((by rw [hg]; exact Nat.ne_of_lt (bl BK433) : gb433 ≠ gb434)); have n9_ := am ((by rw [hg]; exact Nat.ne_of_gt (bl BK433) : gb434 ≠ gb433)); clear BK432; clear BK433; clear HB; have BK432 := n0_; have BK433 := n1_; have HB := n2_; have BK434 := n3_; have GW434 := n4_; have GE434 := n5_; have NB432_434 := n6_; have NB434_432 := n7_; have NB433_434 := n8_; have NB434_433 := n9_; clear n0_ n1_ n2_ n3_ n4_ n5_ n6_ n7_ n8_ n9_; clear hb hbox hg; have hnb9 := NB432_433.out; have hnc9 := NB433_432.out; have hnb10 := NB432_434.out; have hnc10 := NB434_432.out; have hcz11_0 : w8.cell? ⟨gb432, 0, none⟩ = some (.bool a0_0) := (blk_cell BK432.out 0).trans rfl; have hcz11_1 : w8.cell? ⟨gb432, 1, none⟩ = some (.slice A0_1 l0_1.length c0_1) := (blk_cell BK432.out 1).trans rfl; have hfz11_0 := blk_frozen BK432.out 0; have hfz11_1 := blk_frozen BK432.out 1; have hnb12 := NB433_434.out; have hnc12 := NB434_433.out; have hcz13_0 : w8.cell? ⟨gb433, 0, none⟩ = some (.bool a1_0) := (blk_cell BK433.out 0).trans rfl; have hcz13_1 : w8.cell? ⟨gb433, 1, none⟩ = some (.slice A1_1 l1_1.length c1_1) := (blk_cell BK433.out 1).trans rfl; have hfz13_0 := blk_frozen BK433.out 0; have hfz13_1 := blk_frozen BK433.out 1))
   have n0_ := am (blk_drew BK432.out); have n1_ := am (blk_drew BK433.out); have n2_ := am (blk_drew BK434.out); have n3_ := am (below_drew1 HB.out); clear BK432 BK433 BK434 HB; have BK432 := n0_; have BK433 := n1_; have BK434 := n2_; have HB := n3_; clear n0_ n1_ n2_ n3_
   refine start_ (n := 9) (S := fun w' => w'.cell? ⟨gb432, 0, none⟩ = some (.bool a0_0) ∧ w'.cell? ⟨gb432, 1, none⟩ = some (.slice A0_1 l0_1.length c0_1) ∧ w'.cell? ⟨gb433, 0, none⟩ = some (.bool a1_0) ∧ w'.cell? ⟨gb433, 1, none⟩ = some (.slice A1_1 l1_1.length c1_1)) (ds := []) #[false, false, false, false, false, false, false, false, false] (by kernel_rfl) rfl rfl ⟨(blk_cell BK432.out 0).trans rfl, (blk_cell BK432.out 1).trans rfl, (blk_cell BK433.out 0).trans rfl, (blk_cell BK433.out 1).trans rfl⟩ (fun hHeld => ?_); refine with_tabW tumblerref01_AddN.tab2 tumblerref01_AddN.bits2 (fun HT_ HW_ => ?_)
   generalize w8.drew = w14 at BK432 BK433 BK434 HB hHeld ⊢
   refine pure_ (i := 0) (N := some 10) (v := ?_) (a' := ?_) #[true, false, false, false, false, false, false, false, false] rfl rfl (any_of HT_.out (by kernel_rfl)) (fun _ _ _ h => h) (Or.inl ⟨by rfl, ?_⟩) ?_ ?_
   rotate_left
   · intro w'
     go_simp
     with_reducible rfl
   rotate_left
   · simp only [Act.put, List.setIfInBounds_toArray, List.set_cons_zero, List.set_cons_succ, i64_w, i32_w]
     rfl
   refine pure_ (i := 2) (N := some 12) (v := ?_) (a' := ?_) #[true, false, true, false, false, false, false, false, false] rfl rfl (any_of HT_.out (by kernel_rfl)) (fun _ _ _ h => h) (Or.inl ⟨by rfl, ?_⟩) ?_ ?_
   rotate_left
   · intro w'
     go_simp
     with_reducible rfl
   rotate_left
   · simp only [Act.put, List.setIfInBounds_toArray, List.set_cons_zero, List.set_cons_succ, i64_w, i32_w]
     rfl
   refine pure_ (i := 4) (N := some 14) (v := ?_) (a' := ?_) #[true, false, true, false, true, false, false, false, false] rfl rfl (any_of HT_.out (by kernel_rfl)) (fun _ _ _ h => h) (Or.inl ⟨by rfl, ?_⟩) ?_ ?_
   rotate_left
   · intro w'
     go_simp
     with_reducible rfl
   rotate_left
   · simp only [Act.put, List.setIfInBounds_toArray, List.set_cons_zero, List.set_cons_succ, i64_w, i32_w]
     rfl
   refine take_ (i := 1) (N := some 11) (v := ?_) (a' := ?_) #[true, true, true, false, true, false, false, false, false] rfl rfl (take_ofW HT_.out HW_.out (by kernel_rfl)) (fun _ _ _ h => h) (Or.inl ⟨by rfl, ?_⟩) hHeld ?_ ?_
   rotate_left
   · rintro w' ⟨s0, s1, s2, s3⟩
     go_simp
     with_reducible rfl
   rotate_left
   · simp only [Act.put, List.setIfInBounds_toArray, List.set_cons_zero, List.set_cons_succ, i64_w, i32_w]
     rfl
   refine take_ (i := 3) (N := some 13) (v := ?_) (a' := ?_) #[true, true, true, true, true, false, false, false, false] rfl rfl (take_ofW HT_.out HW_.out (by kernel_rfl)) (fun _ _ _ h => h) (Or.inl ⟨by rfl, ?_⟩) hHeld ?_ ?_
   rotate_left
   · rintro w' ⟨s0, s1, s2, s3⟩
     go_simp
     with_reducible rfl
   rotate_left
   · simp only [Act.put, List.setIfInBounds_toArray, List.set_cons_zero, List.set_cons_succ, i64_w, i32_w]
     rfl
   refine take_ (i := 5) (N := some 15) (v := ?_) (a' := ?_) #[true, true, true, true, true, true, false, false, false] rfl rfl (take_ofW HT_.out HW_.out (by kernel_rfl)) (fun _ _ _ h => h) (Or.inl ⟨by rfl, ?_⟩) hHeld ?_ ?_
   rotate_left
   · rintro w' ⟨s0, s1, s2, s3⟩
     go_simp
     with_reducible rfl
   rotate_left
   · simp only [Act.put, List.setIfInBounds_toArray, List.set_cons_zero, List.set_cons_succ, i64_w, i32_w]
     rfl
   refine one_ (i := 6) (N := some 16) #[true, true, true, true, true, true, true, false, false] rfl rfl (one_of HT_.out (by kernel_rfl)) (by decide) (fun K hK => ?_)
   refine goes_ Tryd.func108 (by kernel_rfl) rfl #[.slice A0_1 l0_1.length c0_1, .slice A1_1 l1_1.length c1_1] (by rfl) rfl rfl (by (try simp only [List.map_toArray, List.map_cons, List.map_nil]); first | done | rfl | (simp only [List.length_drop, List.length_take]; rfl)) ?_
   with_reducible refine (tumblerref01_addL.calls k _ _ l0_1 _ _ l1_1 t435 _ ?side1 ?side2 ?side3 ?side4 A4.out).mono ?_
   (case side1 => repeat (first | exact (Kd.C_below HR0_1.out HB.out) | (with_reducible refine Kd.C_alloc ?_ _) | (with_reducible refine Kd.C_drewN ?_ _) | (with_reducible refine Kd.C_drew ?_)))
   (case side2 => exact HC0_1.out)
   (case side3 => repeat (first | exact (Kd.C_below HR1_1.out HB.out) | (with_reducible refine Kd.C_alloc ?_ _) | (with_reducible refine Kd.C_drewN ?_ _) | (with_reducible refine Kd.C_drew ?_)))
   (case side4 => exact HC1_1.out)
   rintro e w15 ⟨v436, rfl, ho0, hb⟩; refine ⟨_, rfl, ?_⟩; have n0_ := am (Kd.V_lower (Kd.V_mono (ok' := fun k_ => (w.heap.size ≤ k_) ∧ k_ ≠ gb432 ∧ k_ ≠ gb433 ∧ k_ ≠ gb434) ho0 (fun k_ hk_ => ⟨(Nat.le_trans (below_size bz) hk_), (Kd.freshB (g := gb432) (o := .cells #[.bool a0_0, .slice A0_1 l0_1.length c0_1] 71 (0, 0)) (bq BK432) k_ hk_), (Kd.freshB (g := gb433) (o := .cells #[.bool a1_0, .slice A1_1 l1_1.length c1_1] 71 (0, 0)) (bq BK433) k_ hk_), (Kd.freshB (g := gb434) (o := .cells #[.bool false, .slice none 0 0] 71 (0, 0)) (bq BK434) k_ hk_)⟩)) (below_size bz)); have n1_ := am (bb BK432 hb); have n2_ := am (bb BK433 hb); have n3_ := am (bb BK434 hb); have n4_ := am (below_step bz hb); clear BK432 BK433 BK434 HB; have HO437 := n0_; have BK432 := n1_; have BK433 := n2_; have BK434 := n3_; have HB := n4_; clear n0_ n1_ n2_ n3_ n4_; (try clear hb); (try clear hb2); (try clear hk); (try clear hi); (try clear ho0)
   obtain ⟨Ao16, co16, eo16⟩ := Kd.V_slice HO437.out
   (first | subst eo16 | (injection eo16 with f1_ f2_ f3_; have f4_ := f1_.symm; have f5_ := f3_.symm; clear f1_ f2_ f3_; subst f4_; subst f5_))
   refine hK.out _ _ ⟨(blk_cell BK432.out 0).trans rfl, (blk_cell BK432.out 1).trans rfl, (blk_cell BK433.out 0).trans rfl, (blk_cell BK433.out 1).trans rfl⟩ (fun hHeld => ?_)
   clear hK K
   refine norm_ (a' := ?_) ?_ ?_
   rotate_left
   · show Act.put _ (some 16) _ = _
     simp only [Act.put, List.setIfInBounds_toArray, List.set_cons_zero, List.set_cons_succ, i64_w, i32_w]
     rfl
   refine one_ (i := 7) (N := some 17) #[true, true, true, true, true, true, true, true, false] rfl rfl (one_of HT_.out (by kernel_rfl)) (by decide) (fun K hK => ?_)
   refine goes_ Tryd.func81 (by kernel_rfl) rfl #[.bool a0_0, .slice Ao16 t435.length co16] (by rfl) rfl rfl (by (try simp only [List.map_toArray, List.map_cons, List.map_nil]); first | done | rfl | (simp only [List.length_drop, List.length_take]; rfl)) ?_
   with_reducible refine (tumblerref01_make2.calls k a0_0 (fun k_ => ((w.heap.size ≤ k_) ∧ (k_ ≠ gb432 ∧ (k_ ≠ gb433 ∧ k_ ≠ gb434)))) _ _ t435 t438 t439 _ ?side1 A5.out).mono ?_
   (case side1 => exact HO437.out)
   rintro e w17 ⟨v440, rfl, ho0, hb⟩; refine ⟨_, rfl, ?_⟩; have n0_ := am (Kd.V_below (by (with_reducible repeat (first | apply Kd.V_alloc | apply Kd.V_drewN | apply Kd.V_drew)); exact HO437.out) hb); have n1_ := am (Kd.V_lower (Kd.V_mono (ok' := fun k_ => (w.heap.size ≤ k_) ∧ k_ ≠ gb432 ∧ k_ ≠ gb433 ∧ k_ ≠ gb434) ho0 (fun k_ hk_ => ⟨Or.elim hk_ (fun hs_ => hs_.1) (fun hn_ => (Nat.le_trans (below_size bz) hn_)), Or.elim hk_ (fun hs_ => hs_.2.1) (fun hn_ => (Kd.freshB (g := gb432) (o := .cells #[.bool a0_0, .slice A0_1 l0_1.length c0_1] 71 (0, 0)) (bq BK432) k_ hn_)), Or.elim hk_ (fun hs_ => hs_.2.2.1) (fun hn_ => (Kd.freshB (g := gb433) (o := .cells #[.bool a1_0, .slice A1_1 l1_1.length c1_1] 71 (0, 0)) (bq BK433) k_ hn_)), Or.elim hk_ (fun hs_ => hs_.2.2.2) (fun hn_ => (Kd.freshB (g := gb434) (o := .cells #[.bool false, .slice none 0 0] 71 (0, 0)) (bq BK434) k_ hn_))⟩)) (below_size bz)); have n2_ := am (bb BK432 hb); have n3_ := am (bb BK433 hb); have n4_ := am (bb BK434 hb); have n5_ := am (below_step bz hb); clear HO437 BK432 BK433 BK434 HB; have HO437 := n0_; have HO441 := n1_; have BK432 := n2_; have BK433 := n3_; have BK434 := n4_; have HB := n5_; clear n0_ n1_ n2_ n3_ n4_ n5_; (try clear hb); (try clear hb2); (try clear hk); (try clear hi); (try clear ho0)
   obtain ⟨Ao19, co19, eo19⟩ := Kd.V_slice HO441.out
   (first | subst eo19 | (injection eo19 with f1_ f2_ f3_; have f4_ := f1_.symm; have f5_ := f3_.symm; clear f1_ f2_ f3_; subst f4_; subst f5_))
   refine hK.out _ _ ⟨(blk_cell BK432.out 0).trans rfl, (blk_cell BK432.out 1).trans rfl, (blk_cell BK433.out 0).trans rfl, (blk_cell BK433.out 1).trans rfl⟩ (fun hHeld => ?_)
   clear hK K
   refine norm_ (a' := ?_) ?_ ?_
   rotate_left
   · show Act.put _ (some 17) _ = _
     simp only [Act.put, List.setIfInBounds_toArray, List.set_cons_zero, List.set_cons_succ, i64_w, i32_w]
     rfl
   refine one_ (i := 8) (N := none) #[true, true, true, true, true, true, true, true, true] rfl rfl (one_of HT_.out (by kernel_rfl)) (by decide) (fun K hK => ?_)
   have hs18 : w17.cell? ⟨gb434, 0, none⟩ = some (.bool false) := (blk_cell BK434.out 0).trans rfl; have hfs18 := blk_frozen BK434.out 0; have hns18_0 := NB432_434.out; have hns18_1 := NB433_434.out; have hms18_0 := NB434_432.out; have hms18_1 := NB434_433.out; have hs20 : w17.cell? ⟨gb434, 1, none⟩ = some (.slice none 0 0) := (blk_cell BK434.out 1).trans rfl; have hfs20 := blk_frozen BK434.out 1; have hns20_0 := NB432_434.out; have hns20_1 := NB433_434.out; have hms20_0 := NB434_432.out; have hms20_1 := NB434_433.out
   refine skip_ (w1 := ?_) (by rfl) rfl ?_ ?_
   rotate_left
   · go_simp
     rfl
   refine hK.out _ _ ⟨((cell_far (p := ⟨gb434, _, none⟩) NB432_434.out _).trans (((cell_far (p := ⟨gb434, _, none⟩) NB432_434.out _).trans (hHeld.1)))), ((cell_far (p := ⟨gb434, _, none⟩) NB432_434.out _).trans (((cell_far (p := ⟨gb434, _, none⟩) NB432_434.out _).trans (hHeld.2.1)))), ((cell_far (p := ⟨gb434, _, none⟩) NB433_434.out _).trans (((cell_far (p := ⟨gb434, _, none⟩) NB433_434.out _).trans (hHeld.2.2.1)))), ((cell_far (p := ⟨gb434, _, none⟩) NB433_434.out _).trans (((cell_far (p := ⟨gb434, _, none⟩) NB433_434.out _).trans (hHeld.2.2.2))))⟩ (fun hHeld => ?_)
   clear hK K
   refine done_ (done_of HT_.out (by kernel_rfl)) ?_
   try go_wp2
   refine bodyPost_ret (results_cell_row rfl _ _ gb434 71 #[.bool t438, .slice Ao19 t439.length co19] (0, 0) _ rfl (by (with_reducible repeat (first | apply bA | apply bB | apply bC)); refine blk_put (cs := #[.bool t438, .slice none 0 0]) ?_ 1 _ rfl; (with_reducible repeat (first | apply bA | apply bB | apply bC)); refine blk_put (cs := #[.bool false, .slice none 0 0]) ?_ 0 _ rfl; (with_reducible repeat (first | apply bA | apply bB | apply bC)); exact BK434.out) Tryd.underlying71 rfl (by kernel_rfl)) rfl ?_
   exact ⟨_, by first | rfl | (simp [errW_none, errW_some] <;> rfl) | (simp [*, errW_none, errW_some] <;> rfl), by (with_reducible repeat (first | apply Kd.V_alloc | apply Kd.V_drewN | apply Kd.V_drew)); exact Kd.V_mono (Kd.V_far (p := ⟨gb434, 1, none⟩) (Kd.V_far (p := ⟨gb434, 0, none⟩) (Kd.V_mono HO441.out (fun k_ hk => (⟨hk, hk.2.2.2⟩ : _ ∧ k_ ≠ gb434))) (fun _ hk => hk.2) (.bool t438)) (fun _ hk => hk.2) (.slice Ao19 t439.length co19)) (fun _ hk => hk.1.1), by repeat (first | (with_reducible first | exact HB.out | apply dA | apply dB | apply dC | refine dE ?_ ‹_›) | exact HB.out)⟩
 · rw [if_neg c3] at H
   have c3b0 : (a0_0 == a1_0) = false := by simpa using c3
   (try (have c3b1 : decide (a0_0 = a1_0) = false := by simpa using c3)); (try (have c3b2 : (a0_0 == a1_0) = false := by simpa using c3)); (try (have c3b3 : ¬ (a0_0 = a1_0) := by simpa using c3)); clear c3
   replace H := Option.bind_eq_some_iff.mp H
   obtain ⟨t442, A210, H⟩ := H
   replace H : (if t442 ≥ 0 then ((tumblerref01_subL.f k l0_1 l1_1).bind fun t443 => ((tumblerref01_make2.f k a0_0 t443).bind fun bt446 => (some (bt446.1, bt446.2)))) else ((tumblerref01_subL.f k l1_1 l0_1).bind fun t450 => ((tumblerref01_make2.f k a1_0 t450).bind fun bt453 => (some (bt453.1, bt453.2))))) = some (r1, r2) := H
   have A21 := Aside0.mk A210; clear A210
   by_cases c22 : t442 ≥ 0
   · rw [if_pos c22] at H
     have c22b0 : decide (0 ≤ t442) = true := decide_eq_true c22; clear c22
     replace H := Option.bind_eq_some_iff.mp H
     obtain ⟨t443, A230, H⟩ := H
     replace H : ((tumblerref01_make2.f k a0_0 t443).bind fun bt446 => (some (bt446.1, bt446.2))) = some (r1, r2) := H
     have A23 := Aside0.mk A230; clear A230
     replace H := Option.bind_eq_some_iff.mp H
     obtain ⟨⟨t446, t447⟩, A240, H⟩ := H
     replace H : (some (t446, t447)) = some (r1, r2) := H
     have A24 := Aside0.mk A240; clear A240
     simp only [Option.some.injEq, Prod.mk.injEq] at H
     obtain ⟨rfl, rfl⟩ := H
     go_enter Tryd.func77, Tryd.ntmps77
     try go_wp2_with (first | ((with_reducible refine gate_dst (N := 2) rfl ?_); refine box_event ?hg (N := 2) ?hd (cs := #[.bool a0_0, .slice A0_1 l0_1.length c0_1]) (t := 71) ?hr ?_; (case hd => rfl); (case hg => rfl); (case hr => first | (go_simp; done) | (go_simp; rfl)); intro gb432 hg w25 hbox hb; have n0_ := am (below_step bz hb); have n1_ := am (hbox); have n2_ := am ((by rw [hg]; exact (below_size bz) : w.heap.size ≤ gb432)); have n3_ := am ((by rw [hg]; exact (below_size bz) : w.heap.size ≤ gb432)); clear HB; have HB := n0_; have BK432 := n1_; have GW432 := n2_; have GE432 := n3_; clear n0_ n1_ n2_ n3_; clear hb hbox hg) | ((with_reducible refine gate_dst (N := 3) rfl ?_); refine box_event ?hg (N := 3) ?hd (cs := #[.bool a1_0, .slice A1_1 l1_1.length c1_1]) (t := 71) ?hr ?_; (case hd => rfl); (case hg => rfl); (case hr => first | (go_simp; done) | (go_simp; rfl)); intro gb433 hg w26 hbox hb; have n0_ := am (bb BK432 hb); have n1_ := am (below_step bz hb); have n2_ := am (hbox); have n3_ := am ((by rw [hg]; exact (below_size bz) : w.heap.size ≤ gb433)); have n4_ := am ((by rw [hg]; exact (below_size bz) : w.heap.size ≤ gb433)); have n5_ := am ((by rw [hg]; exact Nat.ne_of_lt (bl BK432) : gb432 ≠ gb433)); have n6_ := am ((by rw [hg]; exact Nat.ne_of_gt (bl BK432) : gb433 ≠ gb432)); clear BK432; clear HB; have BK432 := n0_; have HB := n1_; have BK433 := n2_; have GW433 := n3_; have GE433 := n4_; have NB432_433 := n5_; have NB433_432 := n6_; clear n0_ n1_ n2_ n3_ n4_ n5_ n6_; clear hb hbox hg) | ((with_reducible refine gate_dst (N := 4) rfl ?_); refine box_event ?hg (N := 4) ?hd (cs := #[.bool false, .slice none 0 0]) (t := 71) ?hr ?_; (case hd => rfl); (case hg => rfl); (case hr => first | (go_simp; done) | (go_simp; rfl)); intro gb434 hg w27 hbox hb; have n0_ := am (bb BK432 hb); have n1_ := am (bb BK433 hb); have n2_ := am (below_step bz hb); have n3_ := am (hbox); have n4_ := am ((by rw [hg]; exact (below_size bz) : w.heap.size ≤ gb434)); have n5_ := am ((by rw [hg]; exact (below_size bz) : w.heap.size ≤ gb434)); have n6_ := am ((by rw [hg]; exact Nat.ne_of_lt (bl BK432) : gb432 ≠ gb434)); have n7_ := am ((by rw [hg]; exact Nat.ne_of_gt (bl BK432) : gb434 ≠ gb432)); have n8_ := am ((by rw [hg]; exact Nat.ne_of_lt (bl BK433) : gb433 ≠ gb434)); have n9_ := am ((by rw [hg]; exact Nat.ne_of_gt (bl BK433) : gb434 ≠ gb433)); clear BK432; clear BK433; clear HB; have BK432 := n0_; have BK433 := n1_; have HB := n2_; have BK434 := n3_; have GW434 := n4_; have GE434 := n5_; have NB432_434 := n6_; have NB434_432 := n7_; have NB433_434 := n8_; have NB434_433 := n9_; clear n0_ n1_ n2_ n3_ n4_ n5_ n6_ n7_ n8_ n9_; clear hb hbox hg; have hnb28 := NB432_433.out; have hnc28 := NB433_432.out; have hnb29 := NB432_434.out; have hnc29 := NB434_432.out; have hcz30_0 : w27.cell? ⟨gb432, 0, none⟩ = some (.bool a0_0) := (blk_cell BK432.out 0).trans rfl; have hcz30_1 : w27.cell? ⟨gb432, 1, none⟩ = some (.slice A0_1 l0_1.length c0_1) := (blk_cell BK432.out 1).trans rfl; have hfz30_0 := blk_frozen BK432.out 0; have hfz30_1 := blk_frozen BK432.out 1; have hnb31 := NB433_434.out; have hnc31 := NB434_433.out; have hcz32_0 : w27.cell? ⟨gb433, 0, none⟩ = some (.bool a1_0) := (blk_cell BK433.out 0).trans rfl; have hcz32_1 : w27.cell? ⟨gb433, 1, none⟩ = some (.slice A1_1 l1_1.length c1_1) := (blk_cell BK433.out 1).trans rfl; have hfz32_0 := blk_frozen BK433.out 0; have hfz32_1 := blk_frozen BK433.out 1) | ((with_reducible refine gate_callee (f := 109) rfl ?_); refine goesL_ (some 22) rfl rfl Tryd.func109 (by kernel_rfl) rfl #[.slice A0_1 l0_1.length c0_1, .slice A1_1 l1_1.length c1_1] rfl (by (try simp only [List.map_toArray, List.map_cons, List.map_nil]); first | done | rfl | (simp only [List.length_drop, List.length_take]; rfl)) ?_; (with_reducible refine (tumblerref01_cmpL.calls k _ _ l0_1 _ _ l1_1 t442 _ ?side1 ?side2 ?side3 ?side4 A21.out).mono ?_); (case side1 => repeat (first | exact (Kd.C_below HR0_1.out HB.out) | (with_reducible refine Kd.C_alloc ?_ _) | (with_reducible refine Kd.C_drewN ?_ _) | (with_reducible refine Kd.C_drew ?_))); (case side2 => exact HC0_1.out); (case side3 => repeat (first | exact (Kd.C_below HR1_1.out HB.out) | (with_reducible refine Kd.C_alloc ?_ _) | (with_reducible refine Kd.C_drewN ?_ _) | (with_reducible refine Kd.C_drew ?_))); (case side4 => exact HC1_1.out); rintro e w33 ⟨rfl, hb⟩; refine ⟨_, rfl, ?_⟩; have n0_ := am (bb BK432 hb); have n1_ := am (bb BK433 hb); have n2_ := am (bb BK434 hb); have n3_ := am (below_step bz hb); clear BK432; clear BK433; clear BK434; clear HB; have BK432 := n0_; have BK433 := n1_; have BK434 := n2_; have HB := n3_; clear n0_ n1_ n2_ n3_; (try clear hb); (try clear hb2); (try clear hk); (try clear hi)))
     have n0_ := am (blk_drew BK432.out); have n1_ := am (blk_drew BK433.out); have n2_ := am (blk_drew BK434.out); have n3_ := am (below_drew1 HB.out); clear BK432 BK433 BK434 HB; have BK432 := n0_; have BK433 := n1_; have BK434 := n2_; have HB := n3_; clear n0_ n1_ n2_ n3_
     refine start_ (n := 9) (S := fun w' => w'.cell? ⟨gb432, 0, none⟩ = some (.bool a0_0) ∧ w'.cell? ⟨gb432, 1, none⟩ = some (.slice A0_1 l0_1.length c0_1) ∧ w'.cell? ⟨gb433, 0, none⟩ = some (.bool a1_0) ∧ w'.cell? ⟨gb433, 1, none⟩ = some (.slice A1_1 l1_1.length c1_1)) (ds := []) #[false, false, false, false, false, false, false, false, false] (by kernel_rfl) rfl rfl ⟨(blk_cell BK432.out 0).trans rfl, (blk_cell BK432.out 1).trans rfl, (blk_cell BK433.out 0).trans rfl, (blk_cell BK433.out 1).trans rfl⟩ (fun hHeld => ?_); refine with_tabW tumblerref01_AddN.tab4 tumblerref01_AddN.bits4 (fun HT_ HW_ => ?_)
     generalize w33.drew = w34 at BK432 BK433 BK434 HB hHeld ⊢
     refine pure_ (i := 0) (N := some 24) (v := ?_) (a' := ?_) #[true, false, false, false, false, false, false, false, false] rfl rfl (any_of HT_.out (by kernel_rfl)) (fun _ _ _ h => h) (Or.inl ⟨by rfl, ?_⟩) ?_ ?_
     rotate_left
     · intro w'
       go_simp
       with_reducible rfl
     rotate_left
     · simp only [Act.put, List.setIfInBounds_toArray, List.set_cons_zero, List.set_cons_succ, i64_w, i32_w]
       rfl
     refine pure_ (i := 2) (N := some 26) (v := ?_) (a' := ?_) #[true, false, true, false, false, false, false, false, false] rfl rfl (any_of HT_.out (by kernel_rfl)) (fun _ _ _ h => h) (Or.inl ⟨by rfl, ?_⟩) ?_ ?_
     rotate_left
     · intro w'
       go_simp
       with_reducible rfl
     rotate_left
     · simp only [Act.put, List.setIfInBounds_toArray, List.set_cons_zero, List.set_cons_succ, i64_w, i32_w]
       rfl
     refine pure_ (i := 4) (N := some 28) (v := ?_) (a' := ?_) #[true, false, true, false, true, false, false, false, false] rfl rfl (any_of HT_.out (by kernel_rfl)) (fun _ _ _ h => h) (Or.inl ⟨by rfl, ?_⟩) ?_ ?_
     rotate_left
     · intro w'
       go_simp
       with_reducible rfl
     rotate_left
     · simp only [Act.put, List.setIfInBounds_toArray, List.set_cons_zero, List.set_cons_succ, i64_w, i32_w]
       rfl
     refine take_ (i := 1) (N := some 25) (v := ?_) (a' := ?_) #[true, true, true, false, true, false, false, false, false] rfl rfl (take_ofW HT_.out HW_.out (by kernel_rfl)) (fun _ _ _ h => h) (Or.inl ⟨by rfl, ?_⟩) hHeld ?_ ?_
     rotate_left
     · rintro w' ⟨s0, s1, s2, s3⟩
       go_simp
       with_reducible rfl
     rotate_left
     · simp only [Act.put, List.setIfInBounds_toArray, List.set_cons_zero, List.set_cons_succ, i64_w, i32_w]
       rfl
     refine take_ (i := 3) (N := some 27) (v := ?_) (a' := ?_) #[true, true, true, true, true, false, false, false, false] rfl rfl (take_ofW HT_.out HW_.out (by kernel_rfl)) (fun _ _ _ h => h) (Or.inl ⟨by rfl, ?_⟩) hHeld ?_ ?_
     rotate_left
     · rintro w' ⟨s0, s1, s2, s3⟩
       go_simp
       with_reducible rfl
     rotate_left
     · simp only [Act.put, List.setIfInBounds_toArray, List.set_cons_zero, List.set_cons_succ, i64_w, i32_w]
       rfl
     refine take_ (i := 5) (N := some 29) (v := ?_) (a' := ?_) #[true, true, true, true, true, true, false, false, false] rfl rfl (take_ofW HT_.out HW_.out (by kernel_rfl)) (fun _ _ _ h => h) (Or.inl ⟨by rfl, ?_⟩) hHeld ?_ ?_
     rotate_left
     · rintro w' ⟨s0, s1, s2, s3⟩
       go_simp
       with_reducible rfl
     rotate_left
     · simp only [Act.put, List.setIfInBounds_toArray, List.set_cons_zero, List.set_cons_succ, i64_w, i32_w]
       rfl
     refine one_ (i := 6) (N := some 30) #[true, true, true, true, true, true, true, false, false] rfl rfl (one_of HT_.out (by kernel_rfl)) (by decide) (fun K hK => ?_)
     refine goes_ Tryd.func110 (by kernel_rfl) rfl #[.slice A0_1 l0_1.length c0_1, .slice A1_1 l1_1.length c1_1] (by rfl) rfl rfl (by (try simp only [List.map_toArray, List.map_cons, List.map_nil]); first | done | rfl | (simp only [List.length_drop, List.length_take]; rfl)) ?_
     with_reducible refine (tumblerref01_subL.calls k _ _ l0_1 _ _ l1_1 t443 _ ?side1 ?side2 ?side3 ?side4 A23.out).mono ?_
     (case side1 => repeat (first | exact (Kd.C_below HR0_1.out HB.out) | (with_reducible refine Kd.C_alloc ?_ _) | (with_reducible refine Kd.C_drewN ?_ _) | (with_reducible refine Kd.C_drew ?_)))
     (case side2 => exact HC0_1.out)
     (case side3 => repeat (first | exact (Kd.C_below HR1_1.out HB.out) | (with_reducible refine Kd.C_alloc ?_ _) | (with_reducible refine Kd.C_drewN ?_ _) | (with_reducible refine Kd.C_drew ?_)))
     (case side4 => exact HC1_1.out)
     rintro e w35 ⟨v444, rfl, ho0, hb⟩; refine ⟨_, rfl, ?_⟩; have n0_ := am (Kd.V_lower (Kd.V_mono (ok' := fun k_ => (w.heap.size ≤ k_) ∧ k_ ≠ gb432 ∧ k_ ≠ gb433 ∧ k_ ≠ gb434) ho0 (fun k_ hk_ => ⟨(Nat.le_trans (below_size bz) hk_), (Kd.freshB (g := gb432) (o := .cells #[.bool a0_0, .slice A0_1 l0_1.length c0_1] 71 (0, 0)) (bq BK432) k_ hk_), (Kd.freshB (g := gb433) (o := .cells #[.bool a1_0, .slice A1_1 l1_1.length c1_1] 71 (0, 0)) (bq BK433) k_ hk_), (Kd.freshB (g := gb434) (o := .cells #[.bool false, .slice none 0 0] 71 (0, 0)) (bq BK434) k_ hk_)⟩)) (below_size bz)); have n1_ := am (bb BK432 hb); have n2_ := am (bb BK433 hb); have n3_ := am (bb BK434 hb); have n4_ := am (below_step bz hb); clear BK432 BK433 BK434 HB; have HO445 := n0_; have BK432 := n1_; have BK433 := n2_; have BK434 := n3_; have HB := n4_; clear n0_ n1_ n2_ n3_ n4_; (try clear hb); (try clear hb2); (try clear hk); (try clear hi); (try clear ho0)
     obtain ⟨Ao36, co36, eo36⟩ := Kd.V_slice HO445.out
     (first | subst eo36 | (injection eo36 with f1_ f2_ f3_; have f4_ := f1_.symm; have f5_ := f3_.symm; clear f1_ f2_ f3_; subst f4_; subst f5_))
     refine hK.out _ _ ⟨(blk_cell BK432.out 0).trans rfl, (blk_cell BK432.out 1).trans rfl, (blk_cell BK433.out 0).trans rfl, (blk_cell BK433.out 1).trans rfl⟩ (fun hHeld => ?_)
     clear hK K
     refine norm_ (a' := ?_) ?_ ?_
     rotate_left
     · show Act.put _ (some 30) _ = _
       simp only [Act.put, List.setIfInBounds_toArray, List.set_cons_zero, List.set_cons_succ, i64_w, i32_w]
       rfl
     refine one_ (i := 7) (N := some 31) #[true, true, true, true, true, true, true, true, false] rfl rfl (one_of HT_.out (by kernel_rfl)) (by decide) (fun K hK => ?_)
     refine goes_ Tryd.func81 (by kernel_rfl) rfl #[.bool a0_0, .slice Ao36 t443.length co36] (by rfl) rfl rfl (by (try simp only [List.map_toArray, List.map_cons, List.map_nil]); first | done | rfl | (simp only [List.length_drop, List.length_take]; rfl)) ?_
     with_reducible refine (tumblerref01_make2.calls k a0_0 (fun k_ => ((w.heap.size ≤ k_) ∧ (k_ ≠ gb432 ∧ (k_ ≠ gb433 ∧ k_ ≠ gb434)))) _ _ t443 t446 t447 _ ?side1 A24.out).mono ?_
     (case side1 => exact HO445.out)
     rintro e w37 ⟨v448, rfl, ho0, hb⟩; refine ⟨_, rfl, ?_⟩; have n0_ := am (Kd.V_below (by (with_reducible repeat (first | apply Kd.V_alloc | apply Kd.V_drewN | apply Kd.V_drew)); exact HO445.out) hb); have n1_ := am (Kd.V_lower (Kd.V_mono (ok' := fun k_ => (w.heap.size ≤ k_) ∧ k_ ≠ gb432 ∧ k_ ≠ gb433 ∧ k_ ≠ gb434) ho0 (fun k_ hk_ => ⟨Or.elim hk_ (fun hs_ => hs_.1) (fun hn_ => (Nat.le_trans (below_size bz) hn_)), Or.elim hk_ (fun hs_ => hs_.2.1) (fun hn_ => (Kd.freshB (g := gb432) (o := .cells #[.bool a0_0, .slice A0_1 l0_1.length c0_1] 71 (0, 0)) (bq BK432) k_ hn_)), Or.elim hk_ (fun hs_ => hs_.2.2.1) (fun hn_ => (Kd.freshB (g := gb433) (o := .cells #[.bool a1_0, .slice A1_1 l1_1.length c1_1] 71 (0, 0)) (bq BK433) k_ hn_)), Or.elim hk_ (fun hs_ => hs_.2.2.2) (fun hn_ => (Kd.freshB (g := gb434) (o := .cells #[.bool false, .slice none 0 0] 71 (0, 0)) (bq BK434) k_ hn_))⟩)) (below_size bz)); have n2_ := am (bb BK432 hb); have n3_ := am (bb BK433 hb); have n4_ := am (bb BK434 hb); have n5_ := am (below_step bz hb); clear HO445 BK432 BK433 BK434 HB; have HO445 := n0_; have HO449 := n1_; have BK432 := n2_; have BK433 := n3_; have BK434 := n4_; have HB := n5_; clear n0_ n1_ n2_ n3_ n4_ n5_; (try clear hb); (try clear hb2); (try clear hk); (try clear hi); (try clear ho0)
     obtain ⟨Ao39, co39, eo39⟩ := Kd.V_slice HO449.out
     (first | subst eo39 | (injection eo39 with f1_ f2_ f3_; have f4_ := f1_.symm; have f5_ := f3_.symm; clear f1_ f2_ f3_; subst f4_; subst f5_))
     refine hK.out _ _ ⟨(blk_cell BK432.out 0).trans rfl, (blk_cell BK432.out 1).trans rfl, (blk_cell BK433.out 0).trans rfl, (blk_cell BK433.out 1).trans rfl⟩ (fun hHeld => ?_)
     clear hK K
     refine norm_ (a' := ?_) ?_ ?_
     rotate_left
     · show Act.put _ (some 31) _ = _
       simp only [Act.put, List.setIfInBounds_toArray, List.set_cons_zero, List.set_cons_succ, i64_w, i32_w]
       rfl
     refine one_ (i := 8) (N := none) #[true, true, true, true, true, true, true, true, true] rfl rfl (one_of HT_.out (by kernel_rfl)) (by decide) (fun K hK => ?_)
     have hs38 : w37.cell? ⟨gb434, 0, none⟩ = some (.bool false) := (blk_cell BK434.out 0).trans rfl; have hfs38 := blk_frozen BK434.out 0; have hns38_0 := NB432_434.out; have hns38_1 := NB433_434.out; have hms38_0 := NB434_432.out; have hms38_1 := NB434_433.out; have hs40 : w37.cell? ⟨gb434, 1, none⟩ = some (.slice none 0 0) := (blk_cell BK434.out 1).trans rfl; have hfs40 := blk_frozen BK434.out 1; have hns40_0 := NB432_434.out; have hns40_1 := NB433_434.out; have hms40_0 := NB434_432.out; have hms40_1 := NB434_433.out
     refine skip_ (w1 := ?_) (by rfl) rfl ?_ ?_
     rotate_left
     · go_simp
       rfl
     refine hK.out _ _ ⟨((cell_far (p := ⟨gb434, _, none⟩) NB432_434.out _).trans (((cell_far (p := ⟨gb434, _, none⟩) NB432_434.out _).trans (hHeld.1)))), ((cell_far (p := ⟨gb434, _, none⟩) NB432_434.out _).trans (((cell_far (p := ⟨gb434, _, none⟩) NB432_434.out _).trans (hHeld.2.1)))), ((cell_far (p := ⟨gb434, _, none⟩) NB433_434.out _).trans (((cell_far (p := ⟨gb434, _, none⟩) NB433_434.out _).trans (hHeld.2.2.1)))), ((cell_far (p := ⟨gb434, _, none⟩) NB433_434.out _).trans (((cell_far (p := ⟨gb434, _, none⟩) NB433_434.out _).trans (hHeld.2.2.2))))⟩ (fun hHeld => ?_)
     clear hK K
     refine done_ (done_of HT_.out (by kernel_rfl)) ?_
     try go_wp2
     refine bodyPost_ret (results_cell_row rfl _ _ gb434 71 #[.bool t446, .slice Ao39 t447.length co39] (0, 0) _ rfl (by (with_reducible repeat (first | apply bA | apply bB | apply bC)); refine blk_put (cs := #[.bool t446, .slice none 0 0]) ?_ 1 _ rfl; (with_reducible repeat (first | apply bA | apply bB | apply bC)); refine blk_put (cs := #[.bool false, .slice none 0 0]) ?_ 0 _ rfl; (with_reducible repeat (first | apply bA | apply bB | apply bC)); exact BK434.out) Tryd.underlying71 rfl (by kernel_rfl)) rfl ?_
     exact ⟨_, by first | rfl | (simp [errW_none, errW_some] <;> rfl) | (simp [*, errW_none, errW_some] <;> rfl), by (with_reducible repeat (first | apply Kd.V_alloc | apply Kd.V_drewN | apply Kd.V_drew)); exact Kd.V_mono (Kd.V_far (p := ⟨gb434, 1, none⟩) (Kd.V_far (p := ⟨gb434, 0, none⟩) (Kd.V_mono HO449.out (fun k_ hk => (⟨hk, hk.2.2.2⟩ : _ ∧ k_ ≠ gb434))) (fun _ hk => hk.2) (.bool t446)) (fun _ hk => hk.2) (.slice Ao39 t447.length co39)) (fun _ hk => hk.1.1), by repeat (first | (with_reducible first | exact HB.out | apply dA | apply dB | apply dC | refine dE ?_ ‹_›) | exact HB.out)⟩
   · rw [if_neg c22] at H
     have c22b0 : decide (0 ≤ t442) = false := decide_eq_false c22; clear c22
     replace H := Option.bind_eq_some_iff.mp H
     obtain ⟨t450, A410, H⟩ := H
     replace H : ((tumblerref01_make2.f k a1_0 t450).bind fun bt453 => (some (bt453.1, bt453.2))) = some (r1, r2) := H
     have A41 := Aside0.mk A410; clear A410
     replace H := Option.bind_eq_some_iff.mp H
     obtain ⟨⟨t453, t454⟩, A420, H⟩ := H
     replace H : (some (t453, t454)) = some (r1, r2) := H
     have A42 := Aside0.mk A420; clear A420
     simp only [Option.some.injEq, Prod.mk.injEq] at H
     obtain ⟨rfl, rfl⟩ := H
     go_enter Tryd.func77, Tryd.ntmps77
     try go_wp2_with (first | ((with_reducible refine gate_dst (N := 2) rfl ?_); refine box_event ?hg (N := 2) ?hd (cs := #[.bool a0_0, .slice A0_1 l0_1.length c0_1]) (t := 71) ?hr ?_; (case hd => rfl); (case hg => rfl); (case hr => first | (go_simp; done) | (go_simp; rfl)); intro gb432 hg w43 hbox hb; have n0_ := am (below_step bz hb); have n1_ := am (hbox); have n2_ := am ((by rw [hg]; exact (below_size bz) : w.heap.size ≤ gb432)); have n3_ := am ((by rw [hg]; exact (below_size bz) : w.heap.size ≤ gb432)); clear HB; have HB := n0_; have BK432 := n1_; have GW432 := n2_; have GE432 := n3_; clear n0_ n1_ n2_ n3_; clear hb hbox hg) | ((with_reducible refine gate_dst (N := 3) rfl ?_); refine box_event ?hg (N := 3) ?hd (cs := #[.bool a1_0, .slice A1_1 l1_1.length c1_1]) (t := 71) ?hr ?_; (case hd => rfl); (case hg => rfl); (case hr => first | (go_simp; done) | (go_simp; rfl)); intro gb433 hg w44 hbox hb; have n0_ := am (bb BK432 hb); have n1_ := am (below_step bz hb); have n2_ := am (hbox); have n3_ := am ((by rw [hg]; exact (below_size bz) : w.heap.size ≤ gb433)); have n4_ := am ((by rw [hg]; exact (below_size bz) : w.heap.size ≤ gb433)); have n5_ := am ((by rw [hg]; exact Nat.ne_of_lt (bl BK432) : gb432 ≠ gb433)); have n6_ := am ((by rw [hg]; exact Nat.ne_of_gt (bl BK432) : gb433 ≠ gb432)); clear BK432; clear HB; have BK432 := n0_; have HB := n1_; have BK433 := n2_; have GW433 := n3_; have GE433 := n4_; have NB432_433 := n5_; have NB433_432 := n6_; clear n0_ n1_ n2_ n3_ n4_ n5_ n6_; clear hb hbox hg) | ((with_reducible refine gate_dst (N := 4) rfl ?_); refine box_event ?hg (N := 4) ?hd (cs := #[.bool false, .slice none 0 0]) (t := 71) ?hr ?_; (case hd => rfl); (case hg => rfl); (case hr => first | (go_simp; done) | (go_simp; rfl)); intro gb434 hg w45 hbox hb; have n0_ := am (bb BK432 hb); have n1_ := am (bb BK433 hb); have n2_ := am (below_step bz hb); have n3_ := am (hbox); have n4_ := am ((by rw [hg]; exact (below_size bz) : w.heap.size ≤ gb434)); have n5_ := am ((by rw [hg]; exact (below_size bz) : w.heap.size ≤ gb434)); have n6_ := am ((by rw [hg]; exact Nat.ne_of_lt (bl BK432) : gb432 ≠ gb434)); have n7_ := am ((by rw [hg]; exact Nat.ne_of_gt (bl BK432) : gb434 ≠ gb432)); have n8_ := am ((by rw [hg]; exact Nat.ne_of_lt (bl BK433) : gb433 ≠ gb434)); have n9_ := am ((by rw [hg]; exact Nat.ne_of_gt (bl BK433) : gb434 ≠ gb433)); clear BK432; clear BK433; clear HB; have BK432 := n0_; have BK433 := n1_; have HB := n2_; have BK434 := n3_; have GW434 := n4_; have GE434 := n5_; have NB432_434 := n6_; have NB434_432 := n7_; have NB433_434 := n8_; have NB434_433 := n9_; clear n0_ n1_ n2_ n3_ n4_ n5_ n6_ n7_ n8_ n9_; clear hb hbox hg; have hnb46 := NB432_433.out; have hnc46 := NB433_432.out; have hnb47 := NB432_434.out; have hnc47 := NB434_432.out; have hcz48_0 : w45.cell? ⟨gb432, 0, none⟩ = some (.bool a0_0) := (blk_cell BK432.out 0).trans rfl; have hcz48_1 : w45.cell? ⟨gb432, 1, none⟩ = some (.slice A0_1 l0_1.length c0_1) := (blk_cell BK432.out 1).trans rfl; have hfz48_0 := blk_frozen BK432.out 0; have hfz48_1 := blk_frozen BK432.out 1; have hnb49 := NB433_434.out; have hnc49 := NB434_433.out; have hcz50_0 : w45.cell? ⟨gb433, 0, none⟩ = some (.bool a1_0) := (blk_cell BK433.out 0).trans rfl; have hcz50_1 : w45.cell? ⟨gb433, 1, none⟩ = some (.slice A1_1 l1_1.length c1_1) := (blk_cell BK433.out 1).trans rfl; have hfz50_0 := blk_frozen BK433.out 0; have hfz50_1 := blk_frozen BK433.out 1) | ((with_reducible refine gate_callee (f := 109) rfl ?_); refine goesL_ (some 22) rfl rfl Tryd.func109 (by kernel_rfl) rfl #[.slice A0_1 l0_1.length c0_1, .slice A1_1 l1_1.length c1_1] rfl (by (try simp only [List.map_toArray, List.map_cons, List.map_nil]); first | done | rfl | (simp only [List.length_drop, List.length_take]; rfl)) ?_; (with_reducible refine (tumblerref01_cmpL.calls k _ _ l0_1 _ _ l1_1 t442 _ ?side1 ?side2 ?side3 ?side4 A21.out).mono ?_); (case side1 => repeat (first | exact (Kd.C_below HR0_1.out HB.out) | (with_reducible refine Kd.C_alloc ?_ _) | (with_reducible refine Kd.C_drewN ?_ _) | (with_reducible refine Kd.C_drew ?_))); (case side2 => exact HC0_1.out); (case side3 => repeat (first | exact (Kd.C_below HR1_1.out HB.out) | (with_reducible refine Kd.C_alloc ?_ _) | (with_reducible refine Kd.C_drewN ?_ _) | (with_reducible refine Kd.C_drew ?_))); (case side4 => exact HC1_1.out); rintro e w51 ⟨rfl, hb⟩; refine ⟨_, rfl, ?_⟩; have n0_ := am (bb BK432 hb); have n1_ := am (bb BK433 hb); have n2_ := am (bb BK434 hb); have n3_ := am (below_step bz hb); clear BK432; clear BK433; clear BK434; clear HB; have BK432 := n0_; have BK433 := n1_; have BK434 := n2_; have HB := n3_; clear n0_ n1_ n2_ n3_; (try clear hb); (try clear hb2); (try clear hk); (try clear hi)))
     have n0_ := am (blk_drew BK432.out); have n1_ := am (blk_drew BK433.out); have n2_ := am (blk_drew BK434.out); have n3_ := am (below_drew1 HB.out); clear BK432 BK433 BK434 HB; have BK432 := n0_; have BK433 := n1_; have BK434 := n2_; have HB := n3_; clear n0_ n1_ n2_ n3_
     refine start_ (n := 9) (S := fun w' => w'.cell? ⟨gb433, 0, none⟩ = some (.bool a1_0) ∧ w'.cell? ⟨gb433, 1, none⟩ = some (.slice A1_1 l1_1.length c1_1) ∧ w'.cell? ⟨gb432, 0, none⟩ = some (.bool a0_0) ∧ w'.cell? ⟨gb432, 1, none⟩ = some (.slice A0_1 l0_1.length c0_1)) (ds := []) #[false, false, false, false, false, false, false, false, false] (by kernel_rfl) rfl rfl ⟨(blk_cell BK433.out 0).trans rfl, (blk_cell BK433.out 1).trans rfl, (blk_cell BK432.out 0).trans rfl, (blk_cell BK432.out 1).trans rfl⟩ (fun hHeld => ?_); refine with_tabW tumblerref01_AddN.tab5 tumblerref01_AddN.bits5 (fun HT_ HW_ => ?_)
     generalize w51.drew = w52 at BK432 BK433 BK434 HB hHeld ⊢
     refine pure_ (i := 0) (N := some 32) (v := ?_) (a' := ?_) #[true, false, false, false, false, false, false, false, false] rfl rfl (any_of HT_.out (by kernel_rfl)) (fun _ _ _ h => h) (Or.inl ⟨by rfl, ?_⟩) ?_ ?_
     rotate_left
     · intro w'
       go_simp
       with_reducible rfl
     rotate_left
     · simp only [Act.put, List.setIfInBounds_toArray, List.set_cons_zero, List.set_cons_succ, i64_w, i32_w]
       rfl
     refine pure_ (i := 2) (N := some 34) (v := ?_) (a' := ?_) #[true, false, true, false, false, false, false, false, false] rfl rfl (any_of HT_.out (by kernel_rfl)) (fun _ _ _ h => h) (Or.inl ⟨by rfl, ?_⟩) ?_ ?_
     rotate_left
     · intro w'
       go_simp
       with_reducible rfl
     rotate_left
     · simp only [Act.put, List.setIfInBounds_toArray, List.set_cons_zero, List.set_cons_succ, i64_w, i32_w]
       rfl
     refine pure_ (i := 4) (N := some 36) (v := ?_) (a' := ?_) #[true, false, true, false, true, false, false, false, false] rfl rfl (any_of HT_.out (by kernel_rfl)) (fun _ _ _ h => h) (Or.inl ⟨by rfl, ?_⟩) ?_ ?_
     rotate_left
     · intro w'
       go_simp
       with_reducible rfl
     rotate_left
     · simp only [Act.put, List.setIfInBounds_toArray, List.set_cons_zero, List.set_cons_succ, i64_w, i32_w]
       rfl
     refine take_ (i := 1) (N := some 33) (v := ?_) (a' := ?_) #[true, true, true, false, true, false, false, false, false] rfl rfl (take_ofW HT_.out HW_.out (by kernel_rfl)) (fun _ _ _ h => h) (Or.inl ⟨by rfl, ?_⟩) hHeld ?_ ?_
     rotate_left
     · rintro w' ⟨s0, s1, s2, s3⟩
       go_simp
       with_reducible rfl
     rotate_left
     · simp only [Act.put, List.setIfInBounds_toArray, List.set_cons_zero, List.set_cons_succ, i64_w, i32_w]
       rfl
     refine take_ (i := 3) (N := some 35) (v := ?_) (a' := ?_) #[true, true, true, true, true, false, false, false, false] rfl rfl (take_ofW HT_.out HW_.out (by kernel_rfl)) (fun _ _ _ h => h) (Or.inl ⟨by rfl, ?_⟩) hHeld ?_ ?_
     rotate_left
     · rintro w' ⟨s0, s1, s2, s3⟩
       go_simp
       with_reducible rfl
     rotate_left
     · simp only [Act.put, List.setIfInBounds_toArray, List.set_cons_zero, List.set_cons_succ, i64_w, i32_w]
       rfl
     refine take_ (i := 5) (N := some 37) (v := ?_) (a' := ?_) #[true, true, true, true, true, true, false, false, false] rfl rfl (take_ofW HT_.out HW_.out (by kernel_rfl)) (fun _ _ _ h => h) (Or.inl ⟨by rfl, ?_⟩) hHeld ?_ ?_
     rotate_left
     · rintro w' ⟨s0, s1, s2, s3⟩
       go_simp
       with_reducible rfl
     rotate_left
     · simp only [Act.put, List.setIfInBounds_toArray, List.set_cons_zero, List.set_cons_succ, i64_w, i32_w]
       rfl
     refine one_ (i := 6) (N := some 38) #[true, true, true, true, true, true, true, false, false] rfl rfl (one_of HT_.out (by kernel_rfl)) (by decide) (fun K hK => ?_)
     refine goes_ Tryd.func110 (by kernel_rfl) rfl #[.slice A1_1 l1_1.length c1_1, .slice A0_1 l0_1.length c0_1] (by rfl) rfl rfl (by (try simp only [List.map_toArray, List.map_cons, List.map_nil]); first | done | rfl | (simp only [List.length_drop, List.length_take]; rfl)) ?_
     with_reducible refine (tumblerref01_subL.calls k _ _ l1_1 _ _ l0_1 t450 _ ?side1 ?side2 ?side3 ?side4 A41.out).mono ?_
     (case side1 => repeat (first | exact (Kd.C_below HR1_1.out HB.out) | (with_reducible refine Kd.C_alloc ?_ _) | (with_reducible refine Kd.C_drewN ?_ _) | (with_reducible refine Kd.C_drew ?_)))
     (case side2 => exact HC1_1.out)
     (case side3 => repeat (first | exact (Kd.C_below HR0_1.out HB.out) | (with_reducible refine Kd.C_alloc ?_ _) | (with_reducible refine Kd.C_drewN ?_ _) | (with_reducible refine Kd.C_drew ?_)))
     (case side4 => exact HC0_1.out)
     rintro e w53 ⟨v451, rfl, ho0, hb⟩; refine ⟨_, rfl, ?_⟩; have n0_ := am (Kd.V_lower (Kd.V_mono (ok' := fun k_ => (w.heap.size ≤ k_) ∧ k_ ≠ gb432 ∧ k_ ≠ gb433 ∧ k_ ≠ gb434) ho0 (fun k_ hk_ => ⟨(Nat.le_trans (below_size bz) hk_), (Kd.freshB (g := gb432) (o := .cells #[.bool a0_0, .slice A0_1 l0_1.length c0_1] 71 (0, 0)) (bq BK432) k_ hk_), (Kd.freshB (g := gb433) (o := .cells #[.bool a1_0, .slice A1_1 l1_1.length c1_1] 71 (0, 0)) (bq BK433) k_ hk_), (Kd.freshB (g := gb434) (o := .cells #[.bool false, .slice none 0 0] 71 (0, 0)) (bq BK434) k_ hk_)⟩)) (below_size bz)); have n1_ := am (bb BK432 hb); have n2_ := am (bb BK433 hb); have n3_ := am (bb BK434 hb); have n4_ := am (below_step bz hb); clear BK432 BK433 BK434 HB; have HO452 := n0_; have BK432 := n1_; have BK433 := n2_; have BK434 := n3_; have HB := n4_; clear n0_ n1_ n2_ n3_ n4_; (try clear hb); (try clear hb2); (try clear hk); (try clear hi); (try clear ho0)
     obtain ⟨Ao54, co54, eo54⟩ := Kd.V_slice HO452.out
     (first | subst eo54 | (injection eo54 with f1_ f2_ f3_; have f4_ := f1_.symm; have f5_ := f3_.symm; clear f1_ f2_ f3_; subst f4_; subst f5_))
     refine hK.out _ _ ⟨(blk_cell BK433.out 0).trans rfl, (blk_cell BK433.out 1).trans rfl, (blk_cell BK432.out 0).trans rfl, (blk_cell BK432.out 1).trans rfl⟩ (fun hHeld => ?_)
     clear hK K
     refine norm_ (a' := ?_) ?_ ?_
     rotate_left
     · show Act.put _ (some 38) _ = _
       simp only [Act.put, List.setIfInBounds_toArray, List.set_cons_zero, List.set_cons_succ, i64_w, i32_w]
       rfl
     refine one_ (i := 7) (N := some 39) #[true, true, true, true, true, true, true, true, false] rfl rfl (one_of HT_.out (by kernel_rfl)) (by decide) (fun K hK => ?_)
     refine goes_ Tryd.func81 (by kernel_rfl) rfl #[.bool a1_0, .slice Ao54 t450.length co54] (by rfl) rfl rfl (by (try simp only [List.map_toArray, List.map_cons, List.map_nil]); first | done | rfl | (simp only [List.length_drop, List.length_take]; rfl)) ?_
     with_reducible refine (tumblerref01_make2.calls k a1_0 (fun k_ => ((w.heap.size ≤ k_) ∧ (k_ ≠ gb432 ∧ (k_ ≠ gb433 ∧ k_ ≠ gb434)))) _ _ t450 t453 t454 _ ?side1 A42.out).mono ?_
     (case side1 => exact HO452.out)
     rintro e w55 ⟨v455, rfl, ho0, hb⟩; refine ⟨_, rfl, ?_⟩; have n0_ := am (Kd.V_below (by (with_reducible repeat (first | apply Kd.V_alloc | apply Kd.V_drewN | apply Kd.V_drew)); exact HO452.out) hb); have n1_ := am (Kd.V_lower (Kd.V_mono (ok' := fun k_ => (w.heap.size ≤ k_) ∧ k_ ≠ gb432 ∧ k_ ≠ gb433 ∧ k_ ≠ gb434) ho0 (fun k_ hk_ => ⟨Or.elim hk_ (fun hs_ => hs_.1) (fun hn_ => (Nat.le_trans (below_size bz) hn_)), Or.elim hk_ (fun hs_ => hs_.2.1) (fun hn_ => (Kd.freshB (g := gb432) (o := .cells #[.bool a0_0, .slice A0_1 l0_1.length c0_1] 71 (0, 0)) (bq BK432) k_ hn_)), Or.elim hk_ (fun hs_ => hs_.2.2.1) (fun hn_ => (Kd.freshB (g := gb433) (o := .cells #[.bool a1_0, .slice A1_1 l1_1.length c1_1] 71 (0, 0)) (bq BK433) k_ hn_)), Or.elim hk_ (fun hs_ => hs_.2.2.2) (fun hn_ => (Kd.freshB (g := gb434) (o := .cells #[.bool false, .slice none 0 0] 71 (0, 0)) (bq BK434) k_ hn_))⟩)) (below_size bz)); have n2_ := am (bb BK432 hb); have n3_ := am (bb BK433 hb); have n4_ := am (bb BK434 hb); have n5_ := am (below_step bz hb); clear HO452 BK432 BK433 BK434 HB; have HO452 := n0_; have HO456 := n1_; have BK432 := n2_; have BK433 := n3_; have BK434 := n4_; have HB := n5_; clear n0_ n1_ n2_ n3_ n4_ n5_; (try clear hb); (try clear hb2); (try clear hk); (try clear hi); (try clear ho0)
     obtain ⟨Ao57, co57, eo57⟩ := Kd.V_slice HO456.out
     (first | subst eo57 | (injection eo57 with f1_ f2_ f3_; have f4_ := f1_.symm; have f5_ := f3_.symm; clear f1_ f2_ f3_; subst f4_; subst f5_))
     refine hK.out _ _ ⟨(blk_cell BK433.out 0).trans rfl, (blk_cell BK433.out 1).trans rfl, (blk_cell BK432.out 0).trans rfl, (blk_cell BK432.out 1).trans rfl⟩ (fun hHeld => ?_)
     clear hK K
     refine norm_ (a' := ?_) ?_ ?_
     rotate_left
     · show Act.put _ (some 39) _ = _
       simp only [Act.put, List.setIfInBounds_toArray, List.set_cons_zero, List.set_cons_succ, i64_w, i32_w]
       rfl
     refine one_ (i := 8) (N := none) #[true, true, true, true, true, true, true, true, true] rfl rfl (one_of HT_.out (by kernel_rfl)) (by decide) (fun K hK => ?_)
     have hs56 : w55.cell? ⟨gb434, 0, none⟩ = some (.bool false) := (blk_cell BK434.out 0).trans rfl; have hfs56 := blk_frozen BK434.out 0; have hns56_0 := NB432_434.out; have hns56_1 := NB433_434.out; have hms56_0 := NB434_432.out; have hms56_1 := NB434_433.out; have hs58 : w55.cell? ⟨gb434, 1, none⟩ = some (.slice none 0 0) := (blk_cell BK434.out 1).trans rfl; have hfs58 := blk_frozen BK434.out 1; have hns58_0 := NB432_434.out; have hns58_1 := NB433_434.out; have hms58_0 := NB434_432.out; have hms58_1 := NB434_433.out
     refine skip_ (w1 := ?_) (by rfl) rfl ?_ ?_
     rotate_left
     · go_simp
       rfl
     refine hK.out _ _ ⟨((cell_far (p := ⟨gb434, _, none⟩) NB433_434.out _).trans (((cell_far (p := ⟨gb434, _, none⟩) NB433_434.out _).trans (hHeld.1)))), ((cell_far (p := ⟨gb434, _, none⟩) NB433_434.out _).trans (((cell_far (p := ⟨gb434, _, none⟩) NB433_434.out _).trans (hHeld.2.1)))), ((cell_far (p := ⟨gb434, _, none⟩) NB432_434.out _).trans (((cell_far (p := ⟨gb434, _, none⟩) NB432_434.out _).trans (hHeld.2.2.1)))), ((cell_far (p := ⟨gb434, _, none⟩) NB432_434.out _).trans (((cell_far (p := ⟨gb434, _, none⟩) NB432_434.out _).trans (hHeld.2.2.2))))⟩ (fun hHeld => ?_)
     clear hK K
     refine done_ (done_of HT_.out (by kernel_rfl)) ?_
     try go_wp2
     refine bodyPost_ret (results_cell_row rfl _ _ gb434 71 #[.bool t453, .slice Ao57 t454.length co57] (0, 0) _ rfl (by (with_reducible repeat (first | apply bA | apply bB | apply bC)); refine blk_put (cs := #[.bool t453, .slice none 0 0]) ?_ 1 _ rfl; (with_reducible repeat (first | apply bA | apply bB | apply bC)); refine blk_put (cs := #[.bool false, .slice none 0 0]) ?_ 0 _ rfl; (with_reducible repeat (first | apply bA | apply bB | apply bC)); exact BK434.out) Tryd.underlying71 rfl (by kernel_rfl)) rfl ?_
     exact ⟨_, by first | rfl | (simp [errW_none, errW_some] <;> rfl) | (simp [*, errW_none, errW_some] <;> rfl), by (with_reducible repeat (first | apply Kd.V_alloc | apply Kd.V_drewN | apply Kd.V_drew)); exact Kd.V_mono (Kd.V_far (p := ⟨gb434, 1, none⟩) (Kd.V_far (p := ⟨gb434, 0, none⟩) (Kd.V_mono HO456.out (fun k_ hk => (⟨hk, hk.2.2.2⟩ : _ ∧ k_ ≠ gb434))) (fun _ hk => hk.2) (.bool t453)) (fun _ hk => hk.2) (.slice Ao57 t454.length co57)) (fun _ hk => hk.1.1), by repeat (first | (with_reducible first | exact HB.out | apply dA | apply dB | apply dC | refine dE ?_ ‹_›) | exact HB.out)⟩

end Go.Proofs.YtcfhmbhlibhlnaaDoor.P
