-- Printed by this session's own pp.py (wip/tool) out of the translation.
import Derived.Test.YtcfhmbhlibhlnaaDoorPx0
import Derived.Test.YtcfhmbhlibhlnaaDoorPxg0
import Derived.Test.YtcfhmbhlibhlnaaDoorPxf72
namespace Go.Proofs.YtcfhmbhlibhlnaaDoor.P
open Go.RowKit Go.Proofs.YtcfhmbhlibhlnaaDoorW.PrintWords Go.Proofs.YtcfhmbhlibhlnaaDoorW.PrintLast Go.Proofs.YtcfhmbhlibhlnaaDoorW.PrintMore Go.Proofs.YtcfhmbhlibhlnaaDoor.Mine
attribute [local go_sem] ext71 ext79 eqA61 eqA62
attribute [local go_sem] max2_int min2_int max_two min_two max_three min_three max_four min_four   -- for this text's walks alone
set_option linter.unusedVariables false
set_option linter.unusedSimpArgs false

/-! ### wide_Mul: function 27 -/
mutual
def wide_Mul.j0 : Nat → Bool → Int → Int → Int → Int → Int → Int → Int → Int → Option (Int × Int × Int)
 | 0, _, _, _, _, _, _, _, _, _ => none
 | k + 1, x25, x168000, x168001, x169000, x169001, x175000, x175001, x176000, x176001 => if x25 = true then (some (0, 0, 10)) else (if x176001 > 0 then (wide_Mul.j1 k x168000 x168001 x169000 x169001 x176000 x176001 x175000 x175001) else (wide_Mul.j1 k x168000 x168001 x169000 x169001 x175000 x175001 x176000 x176001))
def wide_Mul.j1 : Nat → Int → Int → Int → Int → Int → Int → Int → Int → Option (Int × Int × Int)
 | 0, _, _, _, _, _, _, _, _ => none
 | k + 1, x168000, x168001, x169000, x169001, x175000, x175001, x176000, x176001 => (bits_Mul64.f x175000 x176000).bind fun bt176 => ((bits_Mul64.f x175001 x176000).bind fun bt178 => (if bt178.1 > 0 then (some (0, 0, 10)) else (if (addHi bt176.1 bt178.2 0) > 0 then (some (0, 0, 10)) else ((wide_signed.f k bt176.2 (addLo bt176.1 bt178.2 0) ((decide (x168000 < 0)) != (decide (x169000 < 0)))).bind fun bt180 => (some (bt180.1, bt180.2.1, bt180.2.2))))))
end
def wide_Mul.f (k : Nat) (a0_0 : Int) (a0_1 : Int) (a1_0 : Int) (a1_1 : Int) : Option (Int × Int × Int) := (wide_amount.f a0_0 a0_1).bind fun bt170 => ((wide_amount.f a1_0 a1_1).bind fun bt172 => (if bt170.2 > 0 then (wide_Mul.j0 k (decide (bt172.2 > 0)) a0_0 a0_1 a1_0 a1_1 bt170.1 bt170.2 bt172.1 bt172.2) else (wide_Mul.j0 k false a0_0 a0_1 a1_0 a1_1 bt170.1 bt170.2 bt172.1 bt172.2)))
theorem wide_Mul.mono_l : ∀ k, (∀ y0 y1 y2 y3 y4 y5 y6 y7 y8, LeO (wide_Mul.j0 k y0 y1 y2 y3 y4 y5 y6 y7 y8) (wide_Mul.j0 (k + 1) y0 y1 y2 y3 y4 y5 y6 y7 y8)) ∧ (∀ y0 y1 y2 y3 y4 y5 y6 y7, LeO (wide_Mul.j1 k y0 y1 y2 y3 y4 y5 y6 y7) (wide_Mul.j1 (k + 1) y0 y1 y2 y3 y4 y5 y6 y7))
 | 0 => ⟨fun _ _ _ _ _ _ _ _ _ r h => by simp [wide_Mul.j0] at h, fun _ _ _ _ _ _ _ _ r h => by simp [wide_Mul.j1] at h⟩
 | k + 1 => by
  obtain ⟨ih0, ih1⟩ := wide_Mul.mono_l k
  refine ⟨?_, ?_⟩
  · intro y0 y1 y2 y3 y4 y5 y6 y7 y8
    unfold wide_Mul.j0
    repeat' first
    | (with_reducible exact ih0 _ _ _ _ _ _ _ _ _)
    | (with_reducible exact ih1 _ _ _ _ _ _ _ _)
    | (with_reducible exact wide_signed.mono _ _ _ _)
    | (with_reducible exact LeO.refl _)
    | (with_reducible exact LeO.none _)
    | (with_reducible refine LeO.ite ?_ ?_)
    | (with_reducible refine LeO.bind ?_ (fun _ => ?_))
    | exact ih0 _ _ _ _ _ _ _ _ _
    | exact ih1 _ _ _ _ _ _ _ _
    | exact wide_signed.mono _ _ _ _
    | exact LeO.none _
    | refine LeO.ite ?_ ?_
    | refine LeO.bind ?_ (fun _ => ?_)
  · intro y0 y1 y2 y3 y4 y5 y6 y7
    unfold wide_Mul.j1
    repeat' first
    | (with_reducible exact ih0 _ _ _ _ _ _ _ _ _)
    | (with_reducible exact ih1 _ _ _ _ _ _ _ _)
    | (with_reducible exact wide_signed.mono _ _ _ _)
    | (with_reducible exact LeO.refl _)
    | (with_reducible exact LeO.none _)
    | (with_reducible refine LeO.ite ?_ ?_)
    | (with_reducible refine LeO.bind ?_ (fun _ => ?_))
    | exact ih0 _ _ _ _ _ _ _ _ _
    | exact ih1 _ _ _ _ _ _ _ _
    | exact wide_signed.mono _ _ _ _
    | exact LeO.none _
    | refine LeO.ite ?_ ?_
    | refine LeO.bind ?_ (fun _ => ?_)
theorem wide_Mul.mono : ∀ a0 a1 a2 a3 k, LeO (wide_Mul.f k a0 a1 a2 a3) (wide_Mul.f (k + 1) a0 a1 a2 a3) := by
 intro a0 a1 a2 a3 k
 obtain ⟨ih0, ih1⟩ := wide_Mul.mono_l k
 unfold wide_Mul.f
 repeat' first
  | (with_reducible exact ih0 _ _ _ _ _ _ _ _ _)
  | (with_reducible exact ih1 _ _ _ _ _ _ _ _)
  | (with_reducible exact wide_signed.mono _ _ _ _)
  | (with_reducible exact LeO.refl _)
  | (with_reducible exact LeO.none _)
  | (with_reducible refine LeO.ite ?_ ?_)
  | (with_reducible refine LeO.bind ?_ (fun _ => ?_))
  | exact ih0 _ _ _ _ _ _ _ _ _
  | exact ih1 _ _ _ _ _ _ _ _
  | exact wide_signed.mono _ _ _ _
  | exact LeO.none _
  | refine LeO.ite ?_ ?_
  | refine LeO.bind ?_ (fun _ => ?_)
def wide_Mul.T1 : Bool × List (List Nat × List Nat) := (true, [([], []), ([0], [0]), ([], []), ([2, 1], [2]), ([], []), ([], []), ([4, 1, 3, 0, 1, 4, 5], [1, 4]), ([5, 3, 6, 0, 1, 2, 3, 4, 5, 6], [3, 5])])
def wide_Mul.B1 : List Nat := [0, 1, 0, 7, 0, 0, 63, 127]
theorem wide_Mul.tab1 : rtab .any (opsOf Tryd.f27 1) = wide_Mul.T1 := by kernel_rfl
theorem wide_Mul.bits1 : waitsOk wide_Mul.T1.2 wide_Mul.B1 = true := by kernel_rfl
set_option maxHeartbeats 8000000 in
set_option maxRecDepth 100000 in
theorem wide_Mul.calls (k : Nat) (a0_0 : Int) (a0_1 : Int) (a1_0 : Int) (a1_1 : Int) (r1 : Int) (r2 : Int) (r3 : Int) (w : World) (h : wide_Mul.f k a0_0 a0_1 a1_0 a1_1 = some (r1, r2, r3)) :
 Calls Tryd.prog 27 #[.agg #[.int .i64 a0_0, .int .u64 a0_1], .agg #[.int .i64 a1_0, .int .u64 a1_1]] w fun e w' => e = .returned (.tuple #[.agg #[.int .i64 r1, .int .u64 r2], .int .i64 r3]) ∧ Below w.heap.size w w' := by
 have hu24 := Tryd.underlying24; have hu62 := Tryd.underlying62; have HB := am (Below.refl w.heap.size w); have H : ((wide_amount.f a0_0 a0_1).bind fun bt170 => ((wide_amount.f a1_0 a1_1).bind fun bt172 => (if bt170.2 > 0 then (wide_Mul.j0 k (decide (bt172.2 > 0)) a0_0 a0_1 a1_0 a1_1 bt170.1 bt170.2 bt172.1 bt172.2) else (wide_Mul.j0 k false a0_0 a0_1 a1_0 a1_1 bt170.1 bt170.2 bt172.1 bt172.2)))) = some (r1, r2, r3) := h; clear h
 replace H := Option.bind_eq_some_iff.mp H
 obtain ⟨⟨t170, t171⟩, A30, H⟩ := H
 replace H : ((wide_amount.f a1_0 a1_1).bind fun bt172 => (if t171 > 0 then (wide_Mul.j0 k (decide (bt172.2 > 0)) a0_0 a0_1 a1_0 a1_1 t170 t171 bt172.1 bt172.2) else (wide_Mul.j0 k false a0_0 a0_1 a1_0 a1_1 t170 t171 bt172.1 bt172.2))) = some (r1, r2, r3) := H
 have A3 := Aside0.mk A30; clear A30
 replace H := Option.bind_eq_some_iff.mp H
 obtain ⟨⟨t172, t173⟩, A40, H⟩ := H
 replace H : (if t171 > 0 then (wide_Mul.j0 k (decide (t173 > 0)) a0_0 a0_1 a1_0 a1_1 t170 t171 t172 t173) else (wide_Mul.j0 k false a0_0 a0_1 a1_0 a1_1 t170 t171 t172 t173)) = some (r1, r2, r3) := H
 have A4 := Aside0.mk A40; clear A40; have HC5 := Aside0.mk H; clear H
 go_enter Tryd.func27, Tryd.ntmps27
 try go_wp2_with (first | ((with_reducible refine gate_dst (N := 2) rfl ?_); refine box_event (by rfl) (N := 2) (by rfl) (cs := #[.int .i64 a0_0, .int .u64 a0_1]) (t := 24) (by go_simp <;> rfl) ?_; intro gb167 hg w6 hbox hb; have BK167 := am (hbox); have GW167 := gw w hg; replace HB := am (below_step bz hb); clear hb hbox hg) | ((with_reducible refine gate_dst (N := 3) rfl ?_); refine box_event (by rfl) (N := 3) (by rfl) (cs := #[.int .i64 a1_0, .int .u64 a1_1]) (t := 24) (by go_simp <;> rfl) ?_; intro gb168 hg w7 hbox hb; have BK168 := am (hbox); have GW168 := gw w hg; replace HB := am (below_step bz hb); have NB167_168 := nl BK167 hg; have NB168_167 := nr BK167 hg; replace BK167 := am (bb BK167 hb); clear hb hbox hg) | ((with_reducible refine gate_dst (N := 4) rfl ?_); refine box_event (by rfl) (N := 4) (by rfl) (cs := #[.int .i64 0, .int .u64 0]) (t := 24) (by go_simp <;> rfl) ?_; intro gb169 hg w8 hbox hb; have BK169 := am (hbox); have GW169 := gw w hg; replace HB := am (below_step bz hb); have NB167_169 := nl BK167 hg; have NB169_167 := nr BK167 hg; replace BK167 := am (bb BK167 hb); have NB168_169 := nl BK168 hg; have NB169_168 := nr BK168 hg; replace BK168 := am (bb BK168 hb); clear hb hbox hg))
 replace BK167 := am (blk_drew BK167.out); replace BK168 := am (blk_drew BK168.out); replace BK169 := am (blk_drew BK169.out); replace HB := am (below_drew1 HB.out)
 refine start_ (n := 8) (S := fun w' => w'.cell? ⟨gb167, 0, none⟩ = some (.int .i64 a0_0) ∧ w'.cell? ⟨gb167, 1, none⟩ = some (.int .u64 a0_1) ∧ w'.cell? ⟨gb168, 0, none⟩ = some (.int .i64 a1_0) ∧ w'.cell? ⟨gb168, 1, none⟩ = some (.int .u64 a1_1)) (ds := []) #[false, false, false, false, false, false, false, false] (by kernel_rfl) rfl rfl ⟨bc BK167 0, bc BK167 1, bc BK168 0, bc BK168 1⟩ (fun hHeld => ?_); refine with_tabW wide_Mul.tab1 wide_Mul.bits1 (fun HT_ HW_ => ?_)
 generalize w8.drew = w9 at BK167 BK168 BK169 HB hHeld ⊢
 refine take_ (i := 0) (N := some 14) (v := ?_) (a' := ?_) #[true, false, false, false, false, false, false, false] rfl rfl (take_ofW HT_.out HW_.out (by kernel_rfl)) (fun _ _ _ h => h) (Or.inl ⟨by rfl, ?_⟩) hHeld ?_ ?_
 rotate_left
 · rintro w' ⟨s0, s1, s2, s3⟩
   go_simp
   with_reducible rfl
 rotate_left
 · simp only [Act.put, List.setIfInBounds_toArray, List.set_cons_zero, List.set_cons_succ, i64_w, i32_w]
   rfl
 refine take_ (i := 2) (N := some 16) (v := ?_) (a' := ?_) #[true, false, true, false, false, false, false, false] rfl rfl (take_ofW HT_.out HW_.out (by kernel_rfl)) (fun _ _ _ h => h) (Or.inl ⟨by rfl, ?_⟩) hHeld ?_ ?_
 rotate_left
 · rintro w' ⟨s0, s1, s2, s3⟩
   go_simp
   with_reducible rfl
 rotate_left
 · simp only [Act.put, List.setIfInBounds_toArray, List.set_cons_zero, List.set_cons_succ, i64_w, i32_w]
   rfl
 refine join_ (σ := Nat × Nat) 2 #[true, true, true, true, true, true, false, false] (fun s_ => [(15, .agg #[.int .u64 t170, .int .u64 t171]), (17, .agg #[.int .u64 t172, .int .u64 t173]), (6, .pointer (some ⟨s_.1, 0, none⟩)), (7, .pointer (some ⟨s_.2, 0, none⟩))]) (fun s_ w' => (w'.cell? ⟨gb167, 0, none⟩ = some (.int .i64 a0_0) ∧ w'.cell? ⟨gb167, 1, none⟩ = some (.int .u64 a0_1) ∧ w'.cell? ⟨gb168, 0, none⟩ = some (.int .i64 a1_0) ∧ w'.cell? ⟨gb168, 1, none⟩ = some (.int .u64 a1_1)) ∧ (w'.heap[gb167]? = some (.cells #[.int .i64 a0_0, .int .u64 a0_1] 24 (0, 0))) ∧ (w'.heap[gb168]? = some (.cells #[.int .i64 a1_0, .int .u64 a1_1] 24 (0, 0))) ∧ (w'.heap[gb169]? = some (.cells #[.int .i64 0, .int .u64 0] 24 (0, 0))) ∧ (w'.heap[s_.1]? = some (.cells #[.int .u64 0, .int .u64 0] 62 (0, 0))) ∧ (w'.heap[s_.2]? = some (.cells #[.int .u64 0, .int .u64 0] 62 (0, 0))) ∧ (w.heap.size ≤ s_.1) ∧ (gb167 ≠ s_.1) ∧ (s_.1 ≠ gb167) ∧ (gb168 ≠ s_.1) ∧ (s_.1 ≠ gb168) ∧ (gb169 ≠ s_.1) ∧ (s_.1 ≠ gb169) ∧ (s_.2 ≠ s_.1) ∧ (s_.1 ≠ s_.2) ∧ (w.heap.size ≤ s_.2) ∧ (gb167 ≠ s_.2) ∧ (s_.2 ≠ gb167) ∧ (gb168 ≠ s_.2) ∧ (s_.2 ≠ gb168) ∧ (gb169 ≠ s_.2) ∧ (s_.2 ≠ gb169) ∧ (Below w.heap.size w w')) ?_ ?_
 rotate_left
 · intro hJ1_3_4_5
   refine join_ (σ := Nat) 3 #[true, true, true, true, true, false, false, false] (fun s_ => [(15, .agg #[.int .u64 t170, .int .u64 t171]), (17, .agg #[.int .u64 t172, .int .u64 t173]), (6, .pointer (some ⟨s_, 0, none⟩))]) (fun s_ w' => (w'.cell? ⟨gb167, 0, none⟩ = some (.int .i64 a0_0) ∧ w'.cell? ⟨gb167, 1, none⟩ = some (.int .u64 a0_1) ∧ w'.cell? ⟨gb168, 0, none⟩ = some (.int .i64 a1_0) ∧ w'.cell? ⟨gb168, 1, none⟩ = some (.int .u64 a1_1)) ∧ (w'.heap[gb167]? = some (.cells #[.int .i64 a0_0, .int .u64 a0_1] 24 (0, 0))) ∧ (w'.heap[gb168]? = some (.cells #[.int .i64 a1_0, .int .u64 a1_1] 24 (0, 0))) ∧ (w'.heap[gb169]? = some (.cells #[.int .i64 0, .int .u64 0] 24 (0, 0))) ∧ (w'.heap[s_]? = some (.cells #[.int .u64 0, .int .u64 0] 62 (0, 0))) ∧ (w.heap.size ≤ s_) ∧ (gb167 ≠ s_) ∧ (s_ ≠ gb167) ∧ (gb168 ≠ s_) ∧ (s_ ≠ gb168) ∧ (gb169 ≠ s_) ∧ (s_ ≠ gb169) ∧ (Below w.heap.size w w')) ?_ ?_
   rotate_left
   · intro hJ1_3_4
     refine join_ (σ := Nat) 3 #[true, true, true, true, false, true, false, false] (fun s_ => [(15, .agg #[.int .u64 t170, .int .u64 t171]), (17, .agg #[.int .u64 t172, .int .u64 t173]), (7, .pointer (some ⟨s_, 0, none⟩))]) (fun s_ w' => (w'.cell? ⟨gb167, 0, none⟩ = some (.int .i64 a0_0) ∧ w'.cell? ⟨gb167, 1, none⟩ = some (.int .u64 a0_1) ∧ w'.cell? ⟨gb168, 0, none⟩ = some (.int .i64 a1_0) ∧ w'.cell? ⟨gb168, 1, none⟩ = some (.int .u64 a1_1)) ∧ (w'.heap[gb167]? = some (.cells #[.int .i64 a0_0, .int .u64 a0_1] 24 (0, 0))) ∧ (w'.heap[gb168]? = some (.cells #[.int .i64 a1_0, .int .u64 a1_1] 24 (0, 0))) ∧ (w'.heap[gb169]? = some (.cells #[.int .i64 0, .int .u64 0] 24 (0, 0))) ∧ (w'.heap[s_]? = some (.cells #[.int .u64 0, .int .u64 0] 62 (0, 0))) ∧ (w.heap.size ≤ s_) ∧ (gb167 ≠ s_) ∧ (s_ ≠ gb167) ∧ (gb168 ≠ s_) ∧ (s_ ≠ gb168) ∧ (gb169 ≠ s_) ∧ (s_ ≠ gb169) ∧ (Below w.heap.size w w')) ?_ ?_
     rotate_left
     · intro hJ1_3_5
       refine join_ (σ := Nat × Nat) 3 #[true, true, true, false, true, true, false, false] (fun s_ => [(15, .agg #[.int .u64 t170, .int .u64 t171]), (6, .pointer (some ⟨s_.1, 0, none⟩)), (7, .pointer (some ⟨s_.2, 0, none⟩))]) (fun s_ w' => (w'.cell? ⟨gb167, 0, none⟩ = some (.int .i64 a0_0) ∧ w'.cell? ⟨gb167, 1, none⟩ = some (.int .u64 a0_1) ∧ w'.cell? ⟨gb168, 0, none⟩ = some (.int .i64 a1_0) ∧ w'.cell? ⟨gb168, 1, none⟩ = some (.int .u64 a1_1)) ∧ (w'.heap[gb167]? = some (.cells #[.int .i64 a0_0, .int .u64 a0_1] 24 (0, 0))) ∧ (w'.heap[gb168]? = some (.cells #[.int .i64 a1_0, .int .u64 a1_1] 24 (0, 0))) ∧ (w'.heap[gb169]? = some (.cells #[.int .i64 0, .int .u64 0] 24 (0, 0))) ∧ (w'.heap[s_.1]? = some (.cells #[.int .u64 0, .int .u64 0] 62 (0, 0))) ∧ (w'.heap[s_.2]? = some (.cells #[.int .u64 0, .int .u64 0] 62 (0, 0))) ∧ (w.heap.size ≤ s_.1) ∧ (gb167 ≠ s_.1) ∧ (s_.1 ≠ gb167) ∧ (gb168 ≠ s_.1) ∧ (s_.1 ≠ gb168) ∧ (gb169 ≠ s_.1) ∧ (s_.1 ≠ gb169) ∧ (s_.2 ≠ s_.1) ∧ (s_.1 ≠ s_.2) ∧ (w.heap.size ≤ s_.2) ∧ (gb167 ≠ s_.2) ∧ (s_.2 ≠ gb167) ∧ (gb168 ≠ s_.2) ∧ (s_.2 ≠ gb168) ∧ (gb169 ≠ s_.2) ∧ (s_.2 ≠ gb169) ∧ (Below w.heap.size w w')) ?_ ?_
       rotate_left
       · intro hJ1_4_5
         refine join_ (σ := Unit) 4 #[true, true, true, true, false, false, false, false] (fun s_ => [(15, .agg #[.int .u64 t170, .int .u64 t171]), (17, .agg #[.int .u64 t172, .int .u64 t173])]) (fun s_ w' => (w'.cell? ⟨gb167, 0, none⟩ = some (.int .i64 a0_0) ∧ w'.cell? ⟨gb167, 1, none⟩ = some (.int .u64 a0_1) ∧ w'.cell? ⟨gb168, 0, none⟩ = some (.int .i64 a1_0) ∧ w'.cell? ⟨gb168, 1, none⟩ = some (.int .u64 a1_1)) ∧ (w'.heap[gb167]? = some (.cells #[.int .i64 a0_0, .int .u64 a0_1] 24 (0, 0))) ∧ (w'.heap[gb168]? = some (.cells #[.int .i64 a1_0, .int .u64 a1_1] 24 (0, 0))) ∧ (w'.heap[gb169]? = some (.cells #[.int .i64 0, .int .u64 0] 24 (0, 0))) ∧ (Below w.heap.size w w')) ?_ ?_
         rotate_left
         · intro hJ1_3
           refine join_ (σ := Nat) 4 #[true, true, true, false, true, false, false, false] (fun s_ => [(15, .agg #[.int .u64 t170, .int .u64 t171]), (6, .pointer (some ⟨s_, 0, none⟩))]) (fun s_ w' => (w'.cell? ⟨gb167, 0, none⟩ = some (.int .i64 a0_0) ∧ w'.cell? ⟨gb167, 1, none⟩ = some (.int .u64 a0_1) ∧ w'.cell? ⟨gb168, 0, none⟩ = some (.int .i64 a1_0) ∧ w'.cell? ⟨gb168, 1, none⟩ = some (.int .u64 a1_1)) ∧ (w'.heap[gb167]? = some (.cells #[.int .i64 a0_0, .int .u64 a0_1] 24 (0, 0))) ∧ (w'.heap[gb168]? = some (.cells #[.int .i64 a1_0, .int .u64 a1_1] 24 (0, 0))) ∧ (w'.heap[gb169]? = some (.cells #[.int .i64 0, .int .u64 0] 24 (0, 0))) ∧ (w'.heap[s_]? = some (.cells #[.int .u64 0, .int .u64 0] 62 (0, 0))) ∧ (w.heap.size ≤ s_) ∧ (gb167 ≠ s_) ∧ (s_ ≠ gb167) ∧ (gb168 ≠ s_) ∧ (s_ ≠ gb168) ∧ (gb169 ≠ s_) ∧ (s_ ≠ gb169) ∧ (Below w.heap.size w w')) ?_ ?_
           rotate_left
           · intro hJ1_4
             refine join_ (σ := Nat) 4 #[true, true, true, false, false, true, false, false] (fun s_ => [(15, .agg #[.int .u64 t170, .int .u64 t171]), (7, .pointer (some ⟨s_, 0, none⟩))]) (fun s_ w' => (w'.cell? ⟨gb167, 0, none⟩ = some (.int .i64 a0_0) ∧ w'.cell? ⟨gb167, 1, none⟩ = some (.int .u64 a0_1) ∧ w'.cell? ⟨gb168, 0, none⟩ = some (.int .i64 a1_0) ∧ w'.cell? ⟨gb168, 1, none⟩ = some (.int .u64 a1_1)) ∧ (w'.heap[gb167]? = some (.cells #[.int .i64 a0_0, .int .u64 a0_1] 24 (0, 0))) ∧ (w'.heap[gb168]? = some (.cells #[.int .i64 a1_0, .int .u64 a1_1] 24 (0, 0))) ∧ (w'.heap[gb169]? = some (.cells #[.int .i64 0, .int .u64 0] 24 (0, 0))) ∧ (w'.heap[s_]? = some (.cells #[.int .u64 0, .int .u64 0] 62 (0, 0))) ∧ (w.heap.size ≤ s_) ∧ (gb167 ≠ s_) ∧ (s_ ≠ gb167) ∧ (gb168 ≠ s_) ∧ (s_ ≠ gb168) ∧ (gb169 ≠ s_) ∧ (s_ ≠ gb169) ∧ (Below w.heap.size w w')) ?_ ?_
             rotate_left
             · intro hJ1_5
               refine join_ (σ := Nat × Nat) 4 #[true, false, true, false, true, true, false, false] (fun s_ => [(6, .pointer (some ⟨s_.1, 0, none⟩)), (7, .pointer (some ⟨s_.2, 0, none⟩))]) (fun s_ w' => (w'.cell? ⟨gb167, 0, none⟩ = some (.int .i64 a0_0) ∧ w'.cell? ⟨gb167, 1, none⟩ = some (.int .u64 a0_1) ∧ w'.cell? ⟨gb168, 0, none⟩ = some (.int .i64 a1_0) ∧ w'.cell? ⟨gb168, 1, none⟩ = some (.int .u64 a1_1)) ∧ (w'.heap[gb167]? = some (.cells #[.int .i64 a0_0, .int .u64 a0_1] 24 (0, 0))) ∧ (w'.heap[gb168]? = some (.cells #[.int .i64 a1_0, .int .u64 a1_1] 24 (0, 0))) ∧ (w'.heap[gb169]? = some (.cells #[.int .i64 0, .int .u64 0] 24 (0, 0))) ∧ (w'.heap[s_.1]? = some (.cells #[.int .u64 0, .int .u64 0] 62 (0, 0))) ∧ (w'.heap[s_.2]? = some (.cells #[.int .u64 0, .int .u64 0] 62 (0, 0))) ∧ (w.heap.size ≤ s_.1) ∧ (gb167 ≠ s_.1) ∧ (s_.1 ≠ gb167) ∧ (gb168 ≠ s_.1) ∧ (s_.1 ≠ gb168) ∧ (gb169 ≠ s_.1) ∧ (s_.1 ≠ gb169) ∧ (s_.2 ≠ s_.1) ∧ (s_.1 ≠ s_.2) ∧ (w.heap.size ≤ s_.2) ∧ (gb167 ≠ s_.2) ∧ (s_.2 ≠ gb167) ∧ (gb168 ≠ s_.2) ∧ (s_.2 ≠ gb168) ∧ (gb169 ≠ s_.2) ∧ (s_.2 ≠ gb169) ∧ (Below w.heap.size w w')) ?_ ?_
               rotate_left
               · intro hJ4_5
                 refine join_ (σ := Unit) 5 #[true, true, true, false, false, false, false, false] (fun s_ => [(15, .agg #[.int .u64 t170, .int .u64 t171])]) (fun s_ w' => (w'.cell? ⟨gb167, 0, none⟩ = some (.int .i64 a0_0) ∧ w'.cell? ⟨gb167, 1, none⟩ = some (.int .u64 a0_1) ∧ w'.cell? ⟨gb168, 0, none⟩ = some (.int .i64 a1_0) ∧ w'.cell? ⟨gb168, 1, none⟩ = some (.int .u64 a1_1)) ∧ (w'.heap[gb167]? = some (.cells #[.int .i64 a0_0, .int .u64 a0_1] 24 (0, 0))) ∧ (w'.heap[gb168]? = some (.cells #[.int .i64 a1_0, .int .u64 a1_1] 24 (0, 0))) ∧ (w'.heap[gb169]? = some (.cells #[.int .i64 0, .int .u64 0] 24 (0, 0))) ∧ (Below w.heap.size w w')) ?_ ?_
                 rotate_left
                 · intro hJ1
                   refine join_ (σ := Nat) 5 #[true, false, true, false, true, false, false, false] (fun s_ => [(6, .pointer (some ⟨s_, 0, none⟩))]) (fun s_ w' => (w'.cell? ⟨gb167, 0, none⟩ = some (.int .i64 a0_0) ∧ w'.cell? ⟨gb167, 1, none⟩ = some (.int .u64 a0_1) ∧ w'.cell? ⟨gb168, 0, none⟩ = some (.int .i64 a1_0) ∧ w'.cell? ⟨gb168, 1, none⟩ = some (.int .u64 a1_1)) ∧ (w'.heap[gb167]? = some (.cells #[.int .i64 a0_0, .int .u64 a0_1] 24 (0, 0))) ∧ (w'.heap[gb168]? = some (.cells #[.int .i64 a1_0, .int .u64 a1_1] 24 (0, 0))) ∧ (w'.heap[gb169]? = some (.cells #[.int .i64 0, .int .u64 0] 24 (0, 0))) ∧ (w'.heap[s_]? = some (.cells #[.int .u64 0, .int .u64 0] 62 (0, 0))) ∧ (w.heap.size ≤ s_) ∧ (gb167 ≠ s_) ∧ (s_ ≠ gb167) ∧ (gb168 ≠ s_) ∧ (s_ ≠ gb168) ∧ (gb169 ≠ s_) ∧ (s_ ≠ gb169) ∧ (Below w.heap.size w w')) ?_ ?_
                   rotate_left
                   · intro hJ4
                     refine join_ (σ := Nat) 5 #[true, false, true, false, false, true, false, false] (fun s_ => [(7, .pointer (some ⟨s_, 0, none⟩))]) (fun s_ w' => (w'.cell? ⟨gb167, 0, none⟩ = some (.int .i64 a0_0) ∧ w'.cell? ⟨gb167, 1, none⟩ = some (.int .u64 a0_1) ∧ w'.cell? ⟨gb168, 0, none⟩ = some (.int .i64 a1_0) ∧ w'.cell? ⟨gb168, 1, none⟩ = some (.int .u64 a1_1)) ∧ (w'.heap[gb167]? = some (.cells #[.int .i64 a0_0, .int .u64 a0_1] 24 (0, 0))) ∧ (w'.heap[gb168]? = some (.cells #[.int .i64 a1_0, .int .u64 a1_1] 24 (0, 0))) ∧ (w'.heap[gb169]? = some (.cells #[.int .i64 0, .int .u64 0] 24 (0, 0))) ∧ (w'.heap[s_]? = some (.cells #[.int .u64 0, .int .u64 0] 62 (0, 0))) ∧ (w.heap.size ≤ s_) ∧ (gb167 ≠ s_) ∧ (s_ ≠ gb167) ∧ (gb168 ≠ s_) ∧ (s_ ≠ gb168) ∧ (gb169 ≠ s_) ∧ (s_ ≠ gb169) ∧ (Below w.heap.size w w')) ?_ ?_
                     rotate_left
                     · intro hJ5
                       refine three_ (i := 1) (j := 4) (k := 5) (Ni := some 15) (Nj := some 6) (Nk := some 7) #[true, true, true, false, false, false, false, false] #[true, false, true, false, true, false, false, false] #[true, false, true, false, false, true, false, false] rfl rfl rfl rfl rfl rfl (three_of HT_.out (by kernel_rfl)) (by decide) (by decide) (by decide) (fun K hK => ?_) (fun K hK => ?_) (fun K hK => ?_)
                       · skip
                         refine goes_ Tryd.func64 (by kernel_rfl) rfl #[.agg #[.int .i64 a0_0, .int .u64 a0_1]] (by rfl) rfl rfl rf ?_
                         with_reducible refine (wide_amount.calls a0_0 a0_1 t170 t171 _ A3.out).mono ?_
                         rintro e w10 ⟨rfl, hb⟩; refine ⟨_, rfl, ?_⟩; replace BK167 := am (bb BK167 hb); replace BK168 := am (bb BK168 hb); replace BK169 := am (bb BK169 hb); replace HB := am (below_step bz hb); (try clear hb); (try clear hb2); (try clear hk); (try clear hi)
                         refine hK.out _ _ ⟨bc BK167 0, bc BK167 1, bc BK168 0, bc BK168 1⟩ (fun hHeld => ?_)
                         clear hK K
                         refine norm_ (a' := ?_) ?_ ?_
                         rotate_left
                         · show Act.put _ (some 15) _ = _
                           simp only [Act.put, List.setIfInBounds_toArray, List.set_cons_zero, List.set_cons_succ, i64_w, i32_w]
                           rfl
                         exact nm (hJ1 () _ ⟨hHeld, (bq BK167), (bq BK168), (bq BK169), bz⟩)
                       · skip
                         refine box_step (by rfl) (N := 6) (by rfl) (cs := #[.int .u64 0, .int .u64 0]) (t := 62) (by go_simp <;> rfl) ?_
                         intro gb174 hg w10 hbox hb; have BK174 := am (hbox); have GW174 := gw w hg; replace HB := am (below_step bz hb); have NB167_174 := nl BK167 hg; have NB174_167 := nr BK167 hg; replace BK167 := am (bb BK167 hb); have NB168_174 := nl BK168 hg; have NB174_168 := nr BK168 hg; replace BK168 := am (bb BK168 hb); have NB169_174 := nl BK169 hg; have NB174_169 := nr BK169 hg; replace BK169 := am (bb BK169 hb); clear hb hbox hg
                         refine hK.out _ _ ⟨bc BK167 0, bc BK167 1, bc BK168 0, bc BK168 1⟩ (fun hHeld => ?_)
                         clear hK K
                         refine norm_ (a' := ?_) ?_ ?_
                         rotate_left
                         · show Act.put _ (some 6) _ = _
                           simp only [Act.put, List.setIfInBounds_toArray, List.set_cons_zero, List.set_cons_succ, i64_w, i32_w]
                           rfl
                         exact nm (hJ4 (gb174) _ ⟨hHeld, (bq BK167), (bq BK168), (bq BK169), (bq BK174), GW174.out, NB167_174.out, NB174_167.out, NB168_174.out, NB174_168.out, NB169_174.out, NB174_169.out, bz⟩)
                       · skip
                         refine box_step (by rfl) (N := 7) (by rfl) (cs := #[.int .u64 0, .int .u64 0]) (t := 62) (by go_simp <;> rfl) ?_
                         intro gb175 hg w10 hbox hb; have BK175 := am (hbox); have GW175 := gw w hg; replace HB := am (below_step bz hb); have NB167_175 := nl BK167 hg; have NB175_167 := nr BK167 hg; replace BK167 := am (bb BK167 hb); have NB168_175 := nl BK168 hg; have NB175_168 := nr BK168 hg; replace BK168 := am (bb BK168 hb); have NB169_175 := nl BK169 hg; have NB175_169 := nr BK169 hg; replace BK169 := am (bb BK169 hb); clear hb hbox hg
                         refine hK.out _ _ ⟨bc BK167 0, bc BK167 1, bc BK168 0, bc BK168 1⟩ (fun hHeld => ?_)
                         clear hK K
                         refine norm_ (a' := ?_) ?_ ?_
                         rotate_left
                         · show Act.put _ (some 7) _ = _
                           simp only [Act.put, List.setIfInBounds_toArray, List.set_cons_zero, List.set_cons_succ, i64_w, i32_w]
                           rfl
                         exact nm (hJ5 (gb175) _ ⟨hHeld, (bq BK167), (bq BK168), (bq BK169), (bq BK175), GW175.out, NB167_175.out, NB175_167.out, NB168_175.out, NB175_168.out, NB169_175.out, NB175_169.out, bz⟩)
                     · skip
                       rintro gb175 w11 h_; obtain ⟨hS_, h0_, h1_, h2_, h3_, h4_, h6_, h7_, h8_, h9_, h10_, h11_, h12_⟩ := h_; replace BK167 := am h0_; replace BK168 := am h1_; replace BK169 := am h2_; have BK175 := am h3_; have GW175 := am h4_; have NB167_175 := am h6_; have NB175_167 := am h7_; have NB168_175 := am h8_; have NB175_168 := am h9_; have NB169_175 := am h10_; have NB175_169 := am h11_; replace HB := am h12_; clear h0_ h1_ h2_ h3_ h4_ h6_ h7_ h8_ h9_ h10_ h11_ h12_; have hHeld : w11.cell? ⟨gb167, 0, none⟩ = some (.int .i64 a0_0) ∧ w11.cell? ⟨gb167, 1, none⟩ = some (.int .u64 a0_1) ∧ w11.cell? ⟨gb168, 0, none⟩ = some (.int .i64 a1_0) ∧ w11.cell? ⟨gb168, 1, none⟩ = some (.int .u64 a1_1) := hS_
                       refine norm_ (a' := ?_) ?_ ?_
                       rotate_left
                       · simp only [putAll, Act.put, List.setIfInBounds_toArray, List.set_cons_zero, List.set_cons_succ]
                         rfl
                       refine two_ (i := 1) (j := 4) (Ni := some 15) (Nj := some 6) #[true, true, true, false, false, true, false, false] #[true, false, true, false, true, true, false, false] rfl rfl rfl rfl (two_of HT_.out (by kernel_rfl)) (by decide) (by decide) (fun K hK => ?_) (fun K hK => ?_)
                       · skip
                         refine goes_ Tryd.func64 (by kernel_rfl) rfl #[.agg #[.int .i64 a0_0, .int .u64 a0_1]] (by rfl) rfl rfl rf ?_
                         with_reducible refine (wide_amount.calls a0_0 a0_1 t170 t171 _ A3.out).mono ?_
                         rintro e w12 ⟨rfl, hb⟩; refine ⟨_, rfl, ?_⟩; replace BK167 := am (bb BK167 hb); replace BK168 := am (bb BK168 hb); replace BK169 := am (bb BK169 hb); replace BK175 := am (bb BK175 hb); replace HB := am (below_step bz hb); (try clear hb); (try clear hb2); (try clear hk); (try clear hi)
                         refine hK.out _ _ ⟨bc BK167 0, bc BK167 1, bc BK168 0, bc BK168 1⟩ (fun hHeld => ?_)
                         clear hK K
                         refine norm_ (a' := ?_) ?_ ?_
                         rotate_left
                         · show Act.put _ (some 15) _ = _
                           simp only [Act.put, List.setIfInBounds_toArray, List.set_cons_zero, List.set_cons_succ, i64_w, i32_w]
                           rfl
                         exact nm (hJ1_5 (gb175) _ ⟨hHeld, (bq BK167), (bq BK168), (bq BK169), (bq BK175), GW175.out, NB167_175.out, NB175_167.out, NB168_175.out, NB175_168.out, NB169_175.out, NB175_169.out, bz⟩)
                       · skip
                         refine box_step (by rfl) (N := 6) (by rfl) (cs := #[.int .u64 0, .int .u64 0]) (t := 62) (by go_simp <;> rfl) ?_
                         intro gb174 hg w12 hbox hb; have BK174 := am (hbox); have GW174 := gw w hg; replace HB := am (below_step bz hb); have NB167_174 := nl BK167 hg; have NB174_167 := nr BK167 hg; replace BK167 := am (bb BK167 hb); have NB168_174 := nl BK168 hg; have NB174_168 := nr BK168 hg; replace BK168 := am (bb BK168 hb); have NB169_174 := nl BK169 hg; have NB174_169 := nr BK169 hg; replace BK169 := am (bb BK169 hb); have NB175_174 := nl BK175 hg; have NB174_175 := nr BK175 hg; replace BK175 := am (bb BK175 hb); clear hb hbox hg
                         refine hK.out _ _ ⟨bc BK167 0, bc BK167 1, bc BK168 0, bc BK168 1⟩ (fun hHeld => ?_)
                         clear hK K
                         refine norm_ (a' := ?_) ?_ ?_
                         rotate_left
                         · show Act.put _ (some 6) _ = _
                           simp only [Act.put, List.setIfInBounds_toArray, List.set_cons_zero, List.set_cons_succ, i64_w, i32_w]
                           rfl
                         exact nm (hJ4_5 (gb174, gb175) _ ⟨hHeld, (bq BK167), (bq BK168), (bq BK169), (bq BK174), (bq BK175), GW174.out, NB167_174.out, NB174_167.out, NB168_174.out, NB174_168.out, NB169_174.out, NB174_169.out, NB175_174.out, NB174_175.out, GW175.out, NB167_175.out, NB175_167.out, NB168_175.out, NB175_168.out, NB169_175.out, NB175_169.out, bz⟩)
                   · skip
                     rintro gb174 w11 h_; obtain ⟨hS_, h0_, h1_, h2_, h3_, h4_, h6_, h7_, h8_, h9_, h10_, h11_, h12_⟩ := h_; replace BK167 := am h0_; replace BK168 := am h1_; replace BK169 := am h2_; have BK174 := am h3_; have GW174 := am h4_; have NB167_174 := am h6_; have NB174_167 := am h7_; have NB168_174 := am h8_; have NB174_168 := am h9_; have NB169_174 := am h10_; have NB174_169 := am h11_; replace HB := am h12_; clear h0_ h1_ h2_ h3_ h4_ h6_ h7_ h8_ h9_ h10_ h11_ h12_; have hHeld : w11.cell? ⟨gb167, 0, none⟩ = some (.int .i64 a0_0) ∧ w11.cell? ⟨gb167, 1, none⟩ = some (.int .u64 a0_1) ∧ w11.cell? ⟨gb168, 0, none⟩ = some (.int .i64 a1_0) ∧ w11.cell? ⟨gb168, 1, none⟩ = some (.int .u64 a1_1) := hS_
                     refine norm_ (a' := ?_) ?_ ?_
                     rotate_left
                     · simp only [putAll, Act.put, List.setIfInBounds_toArray, List.set_cons_zero, List.set_cons_succ]
                       rfl
                     refine two_ (i := 1) (j := 5) (Ni := some 15) (Nj := some 7) #[true, true, true, false, true, false, false, false] #[true, false, true, false, true, true, false, false] rfl rfl rfl rfl (two_of HT_.out (by kernel_rfl)) (by decide) (by decide) (fun K hK => ?_) (fun K hK => ?_)
                     · skip
                       refine goes_ Tryd.func64 (by kernel_rfl) rfl #[.agg #[.int .i64 a0_0, .int .u64 a0_1]] (by rfl) rfl rfl rf ?_
                       with_reducible refine (wide_amount.calls a0_0 a0_1 t170 t171 _ A3.out).mono ?_
                       rintro e w12 ⟨rfl, hb⟩; refine ⟨_, rfl, ?_⟩; replace BK167 := am (bb BK167 hb); replace BK168 := am (bb BK168 hb); replace BK169 := am (bb BK169 hb); replace BK174 := am (bb BK174 hb); replace HB := am (below_step bz hb); (try clear hb); (try clear hb2); (try clear hk); (try clear hi)
                       refine hK.out _ _ ⟨bc BK167 0, bc BK167 1, bc BK168 0, bc BK168 1⟩ (fun hHeld => ?_)
                       clear hK K
                       refine norm_ (a' := ?_) ?_ ?_
                       rotate_left
                       · show Act.put _ (some 15) _ = _
                         simp only [Act.put, List.setIfInBounds_toArray, List.set_cons_zero, List.set_cons_succ, i64_w, i32_w]
                         rfl
                       exact nm (hJ1_4 (gb174) _ ⟨hHeld, (bq BK167), (bq BK168), (bq BK169), (bq BK174), GW174.out, NB167_174.out, NB174_167.out, NB168_174.out, NB174_168.out, NB169_174.out, NB174_169.out, bz⟩)
                     · skip
                       refine box_step (by rfl) (N := 7) (by rfl) (cs := #[.int .u64 0, .int .u64 0]) (t := 62) (by go_simp <;> rfl) ?_
                       intro gb175 hg w12 hbox hb; have BK175 := am (hbox); have GW175 := gw w hg; replace HB := am (below_step bz hb); have NB167_175 := nl BK167 hg; have NB175_167 := nr BK167 hg; replace BK167 := am (bb BK167 hb); have NB168_175 := nl BK168 hg; have NB175_168 := nr BK168 hg; replace BK168 := am (bb BK168 hb); have NB169_175 := nl BK169 hg; have NB175_169 := nr BK169 hg; replace BK169 := am (bb BK169 hb); have NB174_175 := nl BK174 hg; have NB175_174 := nr BK174 hg; replace BK174 := am (bb BK174 hb); clear hb hbox hg
                       refine hK.out _ _ ⟨bc BK167 0, bc BK167 1, bc BK168 0, bc BK168 1⟩ (fun hHeld => ?_)
                       clear hK K
                       refine norm_ (a' := ?_) ?_ ?_
                       rotate_left
                       · show Act.put _ (some 7) _ = _
                         simp only [Act.put, List.setIfInBounds_toArray, List.set_cons_zero, List.set_cons_succ, i64_w, i32_w]
                         rfl
                       exact nm (hJ4_5 (gb174, gb175) _ ⟨hHeld, (bq BK167), (bq BK168), (bq BK169), (bq BK174), (bq BK175), GW174.out, NB167_174.out, NB174_167.out, NB168_174.out, NB174_168.out, NB169_174.out, NB174_169.out, NB175_174.out, NB174_175.out, GW175.out, NB167_175.out, NB175_167.out, NB168_175.out, NB175_168.out, NB169_175.out, NB175_169.out, bz⟩)
                 · skip
                   rintro _ w11 h_; obtain ⟨hS_, h0_, h1_, h2_, h3_⟩ := h_; replace BK167 := am h0_; replace BK168 := am h1_; replace BK169 := am h2_; replace HB := am h3_; clear h0_ h1_ h2_ h3_; have hHeld : w11.cell? ⟨gb167, 0, none⟩ = some (.int .i64 a0_0) ∧ w11.cell? ⟨gb167, 1, none⟩ = some (.int .u64 a0_1) ∧ w11.cell? ⟨gb168, 0, none⟩ = some (.int .i64 a1_0) ∧ w11.cell? ⟨gb168, 1, none⟩ = some (.int .u64 a1_1) := hS_
                   refine norm_ (a' := ?_) ?_ ?_
                   rotate_left
                   · simp only [putAll, Act.put, List.setIfInBounds_toArray, List.set_cons_zero, List.set_cons_succ]
                     rfl
                   refine three_ (i := 3) (j := 4) (k := 5) (Ni := some 17) (Nj := some 6) (Nk := some 7) #[true, true, true, true, false, false, false, false] #[true, true, true, false, true, false, false, false] #[true, true, true, false, false, true, false, false] rfl rfl rfl rfl rfl rfl (three_of HT_.out (by kernel_rfl)) (by decide) (by decide) (by decide) (fun K hK => ?_) (fun K hK => ?_) (fun K hK => ?_)
                   · skip
                     refine goes_ Tryd.func64 (by kernel_rfl) rfl #[.agg #[.int .i64 a1_0, .int .u64 a1_1]] (by rfl) rfl rfl rf ?_
                     with_reducible refine (wide_amount.calls a1_0 a1_1 t172 t173 _ A4.out).mono ?_
                     rintro e w12 ⟨rfl, hb⟩; refine ⟨_, rfl, ?_⟩; replace BK167 := am (bb BK167 hb); replace BK168 := am (bb BK168 hb); replace BK169 := am (bb BK169 hb); replace HB := am (below_step bz hb); (try clear hb); (try clear hb2); (try clear hk); (try clear hi)
                     refine hK.out _ _ ⟨bc BK167 0, bc BK167 1, bc BK168 0, bc BK168 1⟩ (fun hHeld => ?_)
                     clear hK K
                     refine norm_ (a' := ?_) ?_ ?_
                     rotate_left
                     · show Act.put _ (some 17) _ = _
                       simp only [Act.put, List.setIfInBounds_toArray, List.set_cons_zero, List.set_cons_succ, i64_w, i32_w]
                       rfl
                     exact nm (hJ1_3 () _ ⟨hHeld, (bq BK167), (bq BK168), (bq BK169), bz⟩)
                   · skip
                     refine box_step (by rfl) (N := 6) (by rfl) (cs := #[.int .u64 0, .int .u64 0]) (t := 62) (by go_simp <;> rfl) ?_
                     intro gb174 hg w12 hbox hb; have BK174 := am (hbox); have GW174 := gw w hg; replace HB := am (below_step bz hb); have NB167_174 := nl BK167 hg; have NB174_167 := nr BK167 hg; replace BK167 := am (bb BK167 hb); have NB168_174 := nl BK168 hg; have NB174_168 := nr BK168 hg; replace BK168 := am (bb BK168 hb); have NB169_174 := nl BK169 hg; have NB174_169 := nr BK169 hg; replace BK169 := am (bb BK169 hb); clear hb hbox hg
                     refine hK.out _ _ ⟨bc BK167 0, bc BK167 1, bc BK168 0, bc BK168 1⟩ (fun hHeld => ?_)
                     clear hK K
                     refine norm_ (a' := ?_) ?_ ?_
                     rotate_left
                     · show Act.put _ (some 6) _ = _
                       simp only [Act.put, List.setIfInBounds_toArray, List.set_cons_zero, List.set_cons_succ, i64_w, i32_w]
                       rfl
                     exact nm (hJ1_4 (gb174) _ ⟨hHeld, (bq BK167), (bq BK168), (bq BK169), (bq BK174), GW174.out, NB167_174.out, NB174_167.out, NB168_174.out, NB174_168.out, NB169_174.out, NB174_169.out, bz⟩)
                   · skip
                     refine box_step (by rfl) (N := 7) (by rfl) (cs := #[.int .u64 0, .int .u64 0]) (t := 62) (by go_simp <;> rfl) ?_
                     intro gb175 hg w12 hbox hb; have BK175 := am (hbox); have GW175 := gw w hg; replace HB := am (below_step bz hb); have NB167_175 := nl BK167 hg; have NB175_167 := nr BK167 hg; replace BK167 := am (bb BK167 hb); have NB168_175 := nl BK168 hg; have NB175_168 := nr BK168 hg; replace BK168 := am (bb BK168 hb); have NB169_175 := nl BK169 hg; have NB175_169 := nr BK169 hg; replace BK169 := am (bb BK169 hb); clear hb hbox hg
                     refine hK.out _ _ ⟨bc BK167 0, bc BK167 1, bc BK168 0, bc BK168 1⟩ (fun hHeld => ?_)
                     clear hK K
                     refine norm_ (a' := ?_) ?_ ?_
                     rotate_left
                     · show Act.put _ (some 7) _ = _
                       simp only [Act.put, List.setIfInBounds_toArray, List.set_cons_zero, List.set_cons_succ, i64_w, i32_w]
                       rfl
                     exact nm (hJ1_5 (gb175) _ ⟨hHeld, (bq BK167), (bq BK168), (bq BK169), (bq BK175), GW175.out, NB167_175.out, NB175_167.out, NB168_175.out, NB175_168.out, NB169_175.out, NB175_169.out, bz⟩)
               · skip
                 rintro ⟨gb174, gb175⟩ w12 h_; dsimp only at h_; obtain ⟨hS_, h0_, h1_, h2_, h3_, h4_, h5_, h7_, h8_, h9_, h10_, h11_, h12_, h13_, h14_, h15_, h17_, h18_, h19_, h20_, h21_, h22_, h23_⟩ := h_; replace BK167 := am h0_; replace BK168 := am h1_; replace BK169 := am h2_; have BK174 := am h3_; have BK175 := am h4_; have GW174 := am h5_; have NB167_174 := am h7_; have NB174_167 := am h8_; have NB168_174 := am h9_; have NB174_168 := am h10_; have NB169_174 := am h11_; have NB174_169 := am h12_; have NB175_174 := am h13_; have NB174_175 := am h14_; have GW175 := am h15_; have NB167_175 := am h17_; have NB175_167 := am h18_; have NB168_175 := am h19_; have NB175_168 := am h20_; have NB169_175 := am h21_; have NB175_169 := am h22_; replace HB := am h23_; clear h0_ h1_ h2_ h3_ h4_ h5_ h7_ h8_ h9_ h10_ h11_ h12_ h13_ h14_ h15_ h17_ h18_ h19_ h20_ h21_ h22_ h23_; have hHeld : w12.cell? ⟨gb167, 0, none⟩ = some (.int .i64 a0_0) ∧ w12.cell? ⟨gb167, 1, none⟩ = some (.int .u64 a0_1) ∧ w12.cell? ⟨gb168, 0, none⟩ = some (.int .i64 a1_0) ∧ w12.cell? ⟨gb168, 1, none⟩ = some (.int .u64 a1_1) := hS_
                 refine norm_ (a' := ?_) ?_ ?_
                 rotate_left
                 · simp only [putAll, Act.put, List.setIfInBounds_toArray, List.set_cons_zero, List.set_cons_succ]
                   rfl
                 refine one_ (i := 1) (N := some 15) #[true, true, true, false, true, true, false, false] rfl rfl (one_of HT_.out (by kernel_rfl)) (by decide) (fun K hK => ?_)
                 refine goes_ Tryd.func64 (by kernel_rfl) rfl #[.agg #[.int .i64 a0_0, .int .u64 a0_1]] (by rfl) rfl rfl rf ?_
                 with_reducible refine (wide_amount.calls a0_0 a0_1 t170 t171 _ A3.out).mono ?_
                 rintro e w13 ⟨rfl, hb⟩; refine ⟨_, rfl, ?_⟩; replace BK167 := am (bb BK167 hb); replace BK168 := am (bb BK168 hb); replace BK169 := am (bb BK169 hb); replace BK174 := am (bb BK174 hb); replace BK175 := am (bb BK175 hb); replace HB := am (below_step bz hb); (try clear hb); (try clear hb2); (try clear hk); (try clear hi)
                 refine hK.out _ _ ⟨bc BK167 0, bc BK167 1, bc BK168 0, bc BK168 1⟩ (fun hHeld => ?_)
                 clear hK K
                 refine norm_ (a' := ?_) ?_ ?_
                 rotate_left
                 · show Act.put _ (some 15) _ = _
                   simp only [Act.put, List.setIfInBounds_toArray, List.set_cons_zero, List.set_cons_succ, i64_w, i32_w]
                   rfl
                 exact nm (hJ1_4_5 (gb174, gb175) _ ⟨hHeld, (bq BK167), (bq BK168), (bq BK169), (bq BK174), (bq BK175), GW174.out, NB167_174.out, NB174_167.out, NB168_174.out, NB174_168.out, NB169_174.out, NB174_169.out, NB175_174.out, NB174_175.out, GW175.out, NB167_175.out, NB175_167.out, NB168_175.out, NB175_168.out, NB169_175.out, NB175_169.out, bz⟩)
             · skip
               rintro gb175 w12 h_; obtain ⟨hS_, h0_, h1_, h2_, h3_, h4_, h6_, h7_, h8_, h9_, h10_, h11_, h12_⟩ := h_; replace BK167 := am h0_; replace BK168 := am h1_; replace BK169 := am h2_; have BK175 := am h3_; have GW175 := am h4_; have NB167_175 := am h6_; have NB175_167 := am h7_; have NB168_175 := am h8_; have NB175_168 := am h9_; have NB169_175 := am h10_; have NB175_169 := am h11_; replace HB := am h12_; clear h0_ h1_ h2_ h3_ h4_ h6_ h7_ h8_ h9_ h10_ h11_ h12_; have hHeld : w12.cell? ⟨gb167, 0, none⟩ = some (.int .i64 a0_0) ∧ w12.cell? ⟨gb167, 1, none⟩ = some (.int .u64 a0_1) ∧ w12.cell? ⟨gb168, 0, none⟩ = some (.int .i64 a1_0) ∧ w12.cell? ⟨gb168, 1, none⟩ = some (.int .u64 a1_1) := hS_
               refine norm_ (a' := ?_) ?_ ?_
               rotate_left
               · simp only [putAll, Act.put, List.setIfInBounds_toArray, List.set_cons_zero, List.set_cons_succ]
                 rfl
               refine two_ (i := 3) (j := 4) (Ni := some 17) (Nj := some 6) #[true, true, true, true, false, true, false, false] #[true, true, true, false, true, true, false, false] rfl rfl rfl rfl (two_of HT_.out (by kernel_rfl)) (by decide) (by decide) (fun K hK => ?_) (fun K hK => ?_)
               · skip
                 refine goes_ Tryd.func64 (by kernel_rfl) rfl #[.agg #[.int .i64 a1_0, .int .u64 a1_1]] (by rfl) rfl rfl rf ?_
                 with_reducible refine (wide_amount.calls a1_0 a1_1 t172 t173 _ A4.out).mono ?_
                 rintro e w13 ⟨rfl, hb⟩; refine ⟨_, rfl, ?_⟩; replace BK167 := am (bb BK167 hb); replace BK168 := am (bb BK168 hb); replace BK169 := am (bb BK169 hb); replace BK175 := am (bb BK175 hb); replace HB := am (below_step bz hb); (try clear hb); (try clear hb2); (try clear hk); (try clear hi)
                 refine hK.out _ _ ⟨bc BK167 0, bc BK167 1, bc BK168 0, bc BK168 1⟩ (fun hHeld => ?_)
                 clear hK K
                 refine norm_ (a' := ?_) ?_ ?_
                 rotate_left
                 · show Act.put _ (some 17) _ = _
                   simp only [Act.put, List.setIfInBounds_toArray, List.set_cons_zero, List.set_cons_succ, i64_w, i32_w]
                   rfl
                 exact nm (hJ1_3_5 (gb175) _ ⟨hHeld, (bq BK167), (bq BK168), (bq BK169), (bq BK175), GW175.out, NB167_175.out, NB175_167.out, NB168_175.out, NB175_168.out, NB169_175.out, NB175_169.out, bz⟩)
               · skip
                 refine box_step (by rfl) (N := 6) (by rfl) (cs := #[.int .u64 0, .int .u64 0]) (t := 62) (by go_simp <;> rfl) ?_
                 intro gb174 hg w13 hbox hb; have BK174 := am (hbox); have GW174 := gw w hg; replace HB := am (below_step bz hb); have NB167_174 := nl BK167 hg; have NB174_167 := nr BK167 hg; replace BK167 := am (bb BK167 hb); have NB168_174 := nl BK168 hg; have NB174_168 := nr BK168 hg; replace BK168 := am (bb BK168 hb); have NB169_174 := nl BK169 hg; have NB174_169 := nr BK169 hg; replace BK169 := am (bb BK169 hb); have NB175_174 := nl BK175 hg; have NB174_175 := nr BK175 hg; replace BK175 := am (bb BK175 hb); clear hb hbox hg
                 refine hK.out _ _ ⟨bc BK167 0, bc BK167 1, bc BK168 0, bc BK168 1⟩ (fun hHeld => ?_)
                 clear hK K
                 refine norm_ (a' := ?_) ?_ ?_
                 rotate_left
                 · show Act.put _ (some 6) _ = _
                   simp only [Act.put, List.setIfInBounds_toArray, List.set_cons_zero, List.set_cons_succ, i64_w, i32_w]
                   rfl
                 exact nm (hJ1_4_5 (gb174, gb175) _ ⟨hHeld, (bq BK167), (bq BK168), (bq BK169), (bq BK174), (bq BK175), GW174.out, NB167_174.out, NB174_167.out, NB168_174.out, NB174_168.out, NB169_174.out, NB174_169.out, NB175_174.out, NB174_175.out, GW175.out, NB167_175.out, NB175_167.out, NB168_175.out, NB175_168.out, NB169_175.out, NB175_169.out, bz⟩)
           · skip
             rintro gb174 w12 h_; obtain ⟨hS_, h0_, h1_, h2_, h3_, h4_, h6_, h7_, h8_, h9_, h10_, h11_, h12_⟩ := h_; replace BK167 := am h0_; replace BK168 := am h1_; replace BK169 := am h2_; have BK174 := am h3_; have GW174 := am h4_; have NB167_174 := am h6_; have NB174_167 := am h7_; have NB168_174 := am h8_; have NB174_168 := am h9_; have NB169_174 := am h10_; have NB174_169 := am h11_; replace HB := am h12_; clear h0_ h1_ h2_ h3_ h4_ h6_ h7_ h8_ h9_ h10_ h11_ h12_; have hHeld : w12.cell? ⟨gb167, 0, none⟩ = some (.int .i64 a0_0) ∧ w12.cell? ⟨gb167, 1, none⟩ = some (.int .u64 a0_1) ∧ w12.cell? ⟨gb168, 0, none⟩ = some (.int .i64 a1_0) ∧ w12.cell? ⟨gb168, 1, none⟩ = some (.int .u64 a1_1) := hS_
             refine norm_ (a' := ?_) ?_ ?_
             rotate_left
             · simp only [putAll, Act.put, List.setIfInBounds_toArray, List.set_cons_zero, List.set_cons_succ]
               rfl
             refine two_ (i := 3) (j := 5) (Ni := some 17) (Nj := some 7) #[true, true, true, true, true, false, false, false] #[true, true, true, false, true, true, false, false] rfl rfl rfl rfl (two_of HT_.out (by kernel_rfl)) (by decide) (by decide) (fun K hK => ?_) (fun K hK => ?_)
             · skip
               refine goes_ Tryd.func64 (by kernel_rfl) rfl #[.agg #[.int .i64 a1_0, .int .u64 a1_1]] (by rfl) rfl rfl rf ?_
               with_reducible refine (wide_amount.calls a1_0 a1_1 t172 t173 _ A4.out).mono ?_
               rintro e w13 ⟨rfl, hb⟩; refine ⟨_, rfl, ?_⟩; replace BK167 := am (bb BK167 hb); replace BK168 := am (bb BK168 hb); replace BK169 := am (bb BK169 hb); replace BK174 := am (bb BK174 hb); replace HB := am (below_step bz hb); (try clear hb); (try clear hb2); (try clear hk); (try clear hi)
               refine hK.out _ _ ⟨bc BK167 0, bc BK167 1, bc BK168 0, bc BK168 1⟩ (fun hHeld => ?_)
               clear hK K
               refine norm_ (a' := ?_) ?_ ?_
               rotate_left
               · show Act.put _ (some 17) _ = _
                 simp only [Act.put, List.setIfInBounds_toArray, List.set_cons_zero, List.set_cons_succ, i64_w, i32_w]
                 rfl
               exact nm (hJ1_3_4 (gb174) _ ⟨hHeld, (bq BK167), (bq BK168), (bq BK169), (bq BK174), GW174.out, NB167_174.out, NB174_167.out, NB168_174.out, NB174_168.out, NB169_174.out, NB174_169.out, bz⟩)
             · skip
               refine box_step (by rfl) (N := 7) (by rfl) (cs := #[.int .u64 0, .int .u64 0]) (t := 62) (by go_simp <;> rfl) ?_
               intro gb175 hg w13 hbox hb; have BK175 := am (hbox); have GW175 := gw w hg; replace HB := am (below_step bz hb); have NB167_175 := nl BK167 hg; have NB175_167 := nr BK167 hg; replace BK167 := am (bb BK167 hb); have NB168_175 := nl BK168 hg; have NB175_168 := nr BK168 hg; replace BK168 := am (bb BK168 hb); have NB169_175 := nl BK169 hg; have NB175_169 := nr BK169 hg; replace BK169 := am (bb BK169 hb); have NB174_175 := nl BK174 hg; have NB175_174 := nr BK174 hg; replace BK174 := am (bb BK174 hb); clear hb hbox hg
               refine hK.out _ _ ⟨bc BK167 0, bc BK167 1, bc BK168 0, bc BK168 1⟩ (fun hHeld => ?_)
               clear hK K
               refine norm_ (a' := ?_) ?_ ?_
               rotate_left
               · show Act.put _ (some 7) _ = _
                 simp only [Act.put, List.setIfInBounds_toArray, List.set_cons_zero, List.set_cons_succ, i64_w, i32_w]
                 rfl
               exact nm (hJ1_4_5 (gb174, gb175) _ ⟨hHeld, (bq BK167), (bq BK168), (bq BK169), (bq BK174), (bq BK175), GW174.out, NB167_174.out, NB174_167.out, NB168_174.out, NB174_168.out, NB169_174.out, NB174_169.out, NB175_174.out, NB174_175.out, GW175.out, NB167_175.out, NB175_167.out, NB168_175.out, NB175_168.out, NB169_175.out, NB175_169.out, bz⟩)
         · skip
           rintro _ w12 h_; obtain ⟨hS_, h0_, h1_, h2_, h3_⟩ := h_; replace BK167 := am h0_; replace BK168 := am h1_; replace BK169 := am h2_; replace HB := am h3_; clear h0_ h1_ h2_ h3_; have hHeld : w12.cell? ⟨gb167, 0, none⟩ = some (.int .i64 a0_0) ∧ w12.cell? ⟨gb167, 1, none⟩ = some (.int .u64 a0_1) ∧ w12.cell? ⟨gb168, 0, none⟩ = some (.int .i64 a1_0) ∧ w12.cell? ⟨gb168, 1, none⟩ = some (.int .u64 a1_1) := hS_
           refine norm_ (a' := ?_) ?_ ?_
           rotate_left
           · simp only [putAll, Act.put, List.setIfInBounds_toArray, List.set_cons_zero, List.set_cons_succ]
             rfl
           refine two_ (i := 4) (j := 5) (Ni := some 6) (Nj := some 7) #[true, true, true, true, true, false, false, false] #[true, true, true, true, false, true, false, false] rfl rfl rfl rfl (two_of HT_.out (by kernel_rfl)) (by decide) (by decide) (fun K hK => ?_) (fun K hK => ?_)
           · skip
             refine box_step (by rfl) (N := 6) (by rfl) (cs := #[.int .u64 0, .int .u64 0]) (t := 62) (by go_simp <;> rfl) ?_
             intro gb174 hg w13 hbox hb; have BK174 := am (hbox); have GW174 := gw w hg; replace HB := am (below_step bz hb); have NB167_174 := nl BK167 hg; have NB174_167 := nr BK167 hg; replace BK167 := am (bb BK167 hb); have NB168_174 := nl BK168 hg; have NB174_168 := nr BK168 hg; replace BK168 := am (bb BK168 hb); have NB169_174 := nl BK169 hg; have NB174_169 := nr BK169 hg; replace BK169 := am (bb BK169 hb); clear hb hbox hg
             refine hK.out _ _ ⟨bc BK167 0, bc BK167 1, bc BK168 0, bc BK168 1⟩ (fun hHeld => ?_)
             clear hK K
             refine norm_ (a' := ?_) ?_ ?_
             rotate_left
             · show Act.put _ (some 6) _ = _
               simp only [Act.put, List.setIfInBounds_toArray, List.set_cons_zero, List.set_cons_succ, i64_w, i32_w]
               rfl
             exact nm (hJ1_3_4 (gb174) _ ⟨hHeld, (bq BK167), (bq BK168), (bq BK169), (bq BK174), GW174.out, NB167_174.out, NB174_167.out, NB168_174.out, NB174_168.out, NB169_174.out, NB174_169.out, bz⟩)
           · skip
             refine box_step (by rfl) (N := 7) (by rfl) (cs := #[.int .u64 0, .int .u64 0]) (t := 62) (by go_simp <;> rfl) ?_
             intro gb175 hg w13 hbox hb; have BK175 := am (hbox); have GW175 := gw w hg; replace HB := am (below_step bz hb); have NB167_175 := nl BK167 hg; have NB175_167 := nr BK167 hg; replace BK167 := am (bb BK167 hb); have NB168_175 := nl BK168 hg; have NB175_168 := nr BK168 hg; replace BK168 := am (bb BK168 hb); have NB169_175 := nl BK169 hg; have NB175_169 := nr BK169 hg; replace BK169 := am (bb BK169 hb); clear hb hbox hg
             refine hK.out _ _ ⟨bc BK167 0, bc BK167 1, bc BK168 0, bc BK168 1⟩ (fun hHeld => ?_)
             clear hK K
             refine norm_ (a' := ?_) ?_ ?_
             rotate_left
             · show Act.put _ (some 7) _ = _
               simp only [Act.put, List.setIfInBounds_toArray, List.set_cons_zero, List.set_cons_succ, i64_w, i32_w]
               rfl
             exact nm (hJ1_3_5 (gb175) _ ⟨hHeld, (bq BK167), (bq BK168), (bq BK169), (bq BK175), GW175.out, NB167_175.out, NB175_167.out, NB168_175.out, NB175_168.out, NB169_175.out, NB175_169.out, bz⟩)
       · skip
         rintro ⟨gb174, gb175⟩ w13 h_; dsimp only at h_; obtain ⟨hS_, h0_, h1_, h2_, h3_, h4_, h5_, h7_, h8_, h9_, h10_, h11_, h12_, h13_, h14_, h15_, h17_, h18_, h19_, h20_, h21_, h22_, h23_⟩ := h_; replace BK167 := am h0_; replace BK168 := am h1_; replace BK169 := am h2_; have BK174 := am h3_; have BK175 := am h4_; have GW174 := am h5_; have NB167_174 := am h7_; have NB174_167 := am h8_; have NB168_174 := am h9_; have NB174_168 := am h10_; have NB169_174 := am h11_; have NB174_169 := am h12_; have NB175_174 := am h13_; have NB174_175 := am h14_; have GW175 := am h15_; have NB167_175 := am h17_; have NB175_167 := am h18_; have NB168_175 := am h19_; have NB175_168 := am h20_; have NB169_175 := am h21_; have NB175_169 := am h22_; replace HB := am h23_; clear h0_ h1_ h2_ h3_ h4_ h5_ h7_ h8_ h9_ h10_ h11_ h12_ h13_ h14_ h15_ h17_ h18_ h19_ h20_ h21_ h22_ h23_; have hHeld : w13.cell? ⟨gb167, 0, none⟩ = some (.int .i64 a0_0) ∧ w13.cell? ⟨gb167, 1, none⟩ = some (.int .u64 a0_1) ∧ w13.cell? ⟨gb168, 0, none⟩ = some (.int .i64 a1_0) ∧ w13.cell? ⟨gb168, 1, none⟩ = some (.int .u64 a1_1) := hS_
         refine norm_ (a' := ?_) ?_ ?_
         rotate_left
         · simp only [putAll, Act.put, List.setIfInBounds_toArray, List.set_cons_zero, List.set_cons_succ]
           rfl
         refine one_ (i := 3) (N := some 17) #[true, true, true, true, true, true, false, false] rfl rfl (one_of HT_.out (by kernel_rfl)) (by decide) (fun K hK => ?_)
         refine goes_ Tryd.func64 (by kernel_rfl) rfl #[.agg #[.int .i64 a1_0, .int .u64 a1_1]] (by rfl) rfl rfl rf ?_
         with_reducible refine (wide_amount.calls a1_0 a1_1 t172 t173 _ A4.out).mono ?_
         rintro e w14 ⟨rfl, hb⟩; refine ⟨_, rfl, ?_⟩; replace BK167 := am (bb BK167 hb); replace BK168 := am (bb BK168 hb); replace BK169 := am (bb BK169 hb); replace BK174 := am (bb BK174 hb); replace BK175 := am (bb BK175 hb); replace HB := am (below_step bz hb); (try clear hb); (try clear hb2); (try clear hk); (try clear hi)
         refine hK.out _ _ ⟨bc BK167 0, bc BK167 1, bc BK168 0, bc BK168 1⟩ (fun hHeld => ?_)
         clear hK K
         refine norm_ (a' := ?_) ?_ ?_
         rotate_left
         · show Act.put _ (some 17) _ = _
           simp only [Act.put, List.setIfInBounds_toArray, List.set_cons_zero, List.set_cons_succ, i64_w, i32_w]
           rfl
         exact nm (hJ1_3_4_5 (gb174, gb175) _ ⟨hHeld, (bq BK167), (bq BK168), (bq BK169), (bq BK174), (bq BK175), GW174.out, NB167_174.out, NB174_167.out, NB168_174.out, NB174_168.out, NB169_174.out, NB174_169.out, NB175_174.out, NB174_175.out, GW175.out, NB167_175.out, NB175_167.out, NB168_175.out, NB175_168.out, NB169_175.out, NB175_169.out, bz⟩)
     · skip
       rintro gb175 w13 h_; obtain ⟨hS_, h0_, h1_, h2_, h3_, h4_, h6_, h7_, h8_, h9_, h10_, h11_, h12_⟩ := h_; replace BK167 := am h0_; replace BK168 := am h1_; replace BK169 := am h2_; have BK175 := am h3_; have GW175 := am h4_; have NB167_175 := am h6_; have NB175_167 := am h7_; have NB168_175 := am h8_; have NB175_168 := am h9_; have NB169_175 := am h10_; have NB175_169 := am h11_; replace HB := am h12_; clear h0_ h1_ h2_ h3_ h4_ h6_ h7_ h8_ h9_ h10_ h11_ h12_; have hHeld : w13.cell? ⟨gb167, 0, none⟩ = some (.int .i64 a0_0) ∧ w13.cell? ⟨gb167, 1, none⟩ = some (.int .u64 a0_1) ∧ w13.cell? ⟨gb168, 0, none⟩ = some (.int .i64 a1_0) ∧ w13.cell? ⟨gb168, 1, none⟩ = some (.int .u64 a1_1) := hS_
       refine norm_ (a' := ?_) ?_ ?_
       rotate_left
       · simp only [putAll, Act.put, List.setIfInBounds_toArray, List.set_cons_zero, List.set_cons_succ]
         rfl
       refine one_ (i := 4) (N := some 6) #[true, true, true, true, true, true, false, false] rfl rfl (one_of HT_.out (by kernel_rfl)) (by decide) (fun K hK => ?_)
       refine box_step (by rfl) (N := 6) (by rfl) (cs := #[.int .u64 0, .int .u64 0]) (t := 62) (by go_simp <;> rfl) ?_
       intro gb174 hg w14 hbox hb; have BK174 := am (hbox); have GW174 := gw w hg; replace HB := am (below_step bz hb); have NB167_174 := nl BK167 hg; have NB174_167 := nr BK167 hg; replace BK167 := am (bb BK167 hb); have NB168_174 := nl BK168 hg; have NB174_168 := nr BK168 hg; replace BK168 := am (bb BK168 hb); have NB169_174 := nl BK169 hg; have NB174_169 := nr BK169 hg; replace BK169 := am (bb BK169 hb); have NB175_174 := nl BK175 hg; have NB174_175 := nr BK175 hg; replace BK175 := am (bb BK175 hb); clear hb hbox hg
       refine hK.out _ _ ⟨bc BK167 0, bc BK167 1, bc BK168 0, bc BK168 1⟩ (fun hHeld => ?_)
       clear hK K
       refine norm_ (a' := ?_) ?_ ?_
       rotate_left
       · show Act.put _ (some 6) _ = _
         simp only [Act.put, List.setIfInBounds_toArray, List.set_cons_zero, List.set_cons_succ, i64_w, i32_w]
         rfl
       exact nm (hJ1_3_4_5 (gb174, gb175) _ ⟨hHeld, (bq BK167), (bq BK168), (bq BK169), (bq BK174), (bq BK175), GW174.out, NB167_174.out, NB174_167.out, NB168_174.out, NB174_168.out, NB169_174.out, NB174_169.out, NB175_174.out, NB174_175.out, GW175.out, NB167_175.out, NB175_167.out, NB168_175.out, NB175_168.out, NB169_175.out, NB175_169.out, bz⟩)
   · skip
     rintro gb174 w13 h_; obtain ⟨hS_, h0_, h1_, h2_, h3_, h4_, h6_, h7_, h8_, h9_, h10_, h11_, h12_⟩ := h_; replace BK167 := am h0_; replace BK168 := am h1_; replace BK169 := am h2_; have BK174 := am h3_; have GW174 := am h4_; have NB167_174 := am h6_; have NB174_167 := am h7_; have NB168_174 := am h8_; have NB174_168 := am h9_; have NB169_174 := am h10_; have NB174_169 := am h11_; replace HB := am h12_; clear h0_ h1_ h2_ h3_ h4_ h6_ h7_ h8_ h9_ h10_ h11_ h12_; have hHeld : w13.cell? ⟨gb167, 0, none⟩ = some (.int .i64 a0_0) ∧ w13.cell? ⟨gb167, 1, none⟩ = some (.int .u64 a0_1) ∧ w13.cell? ⟨gb168, 0, none⟩ = some (.int .i64 a1_0) ∧ w13.cell? ⟨gb168, 1, none⟩ = some (.int .u64 a1_1) := hS_
     refine norm_ (a' := ?_) ?_ ?_
     rotate_left
     · simp only [putAll, Act.put, List.setIfInBounds_toArray, List.set_cons_zero, List.set_cons_succ]
       rfl
     refine one_ (i := 5) (N := some 7) #[true, true, true, true, true, true, false, false] rfl rfl (one_of HT_.out (by kernel_rfl)) (by decide) (fun K hK => ?_)
     refine box_step (by rfl) (N := 7) (by rfl) (cs := #[.int .u64 0, .int .u64 0]) (t := 62) (by go_simp <;> rfl) ?_
     intro gb175 hg w14 hbox hb; have BK175 := am (hbox); have GW175 := gw w hg; replace HB := am (below_step bz hb); have NB167_175 := nl BK167 hg; have NB175_167 := nr BK167 hg; replace BK167 := am (bb BK167 hb); have NB168_175 := nl BK168 hg; have NB175_168 := nr BK168 hg; replace BK168 := am (bb BK168 hb); have NB169_175 := nl BK169 hg; have NB175_169 := nr BK169 hg; replace BK169 := am (bb BK169 hb); have NB174_175 := nl BK174 hg; have NB175_174 := nr BK174 hg; replace BK174 := am (bb BK174 hb); clear hb hbox hg
     refine hK.out _ _ ⟨bc BK167 0, bc BK167 1, bc BK168 0, bc BK168 1⟩ (fun hHeld => ?_)
     clear hK K
     refine norm_ (a' := ?_) ?_ ?_
     rotate_left
     · show Act.put _ (some 7) _ = _
       simp only [Act.put, List.setIfInBounds_toArray, List.set_cons_zero, List.set_cons_succ, i64_w, i32_w]
       rfl
     exact nm (hJ1_3_4_5 (gb174, gb175) _ ⟨hHeld, (bq BK167), (bq BK168), (bq BK169), (bq BK174), (bq BK175), GW174.out, NB167_174.out, NB174_167.out, NB168_174.out, NB174_168.out, NB169_174.out, NB174_169.out, NB175_174.out, NB174_175.out, GW175.out, NB167_175.out, NB175_167.out, NB168_175.out, NB175_168.out, NB169_175.out, NB175_169.out, bz⟩)
 rintro ⟨gb174, gb175⟩ w14 h_; dsimp only at h_; obtain ⟨hS_, h0_, h1_, h2_, h3_, h4_, h5_, h7_, h8_, h9_, h10_, h11_, h12_, h13_, h14_, h15_, h17_, h18_, h19_, h20_, h21_, h22_, h23_⟩ := h_; replace BK167 := am h0_; replace BK168 := am h1_; replace BK169 := am h2_; have BK174 := am h3_; have BK175 := am h4_; have GW174 := am h5_; have NB167_174 := am h7_; have NB174_167 := am h8_; have NB168_174 := am h9_; have NB174_168 := am h10_; have NB169_174 := am h11_; have NB174_169 := am h12_; have NB175_174 := am h13_; have NB174_175 := am h14_; have GW175 := am h15_; have NB167_175 := am h17_; have NB175_167 := am h18_; have NB168_175 := am h19_; have NB175_168 := am h20_; have NB169_175 := am h21_; have NB175_169 := am h22_; replace HB := am h23_; clear h0_ h1_ h2_ h3_ h4_ h5_ h7_ h8_ h9_ h10_ h11_ h12_ h13_ h14_ h15_ h17_ h18_ h19_ h20_ h21_ h22_ h23_; have hHeld : w14.cell? ⟨gb167, 0, none⟩ = some (.int .i64 a0_0) ∧ w14.cell? ⟨gb167, 1, none⟩ = some (.int .u64 a0_1) ∧ w14.cell? ⟨gb168, 0, none⟩ = some (.int .i64 a1_0) ∧ w14.cell? ⟨gb168, 1, none⟩ = some (.int .u64 a1_1) := hS_
 refine norm_ (a' := ?_) ?_ ?_
 rotate_left
 · simp only [putAll, Act.put, List.setIfInBounds_toArray, List.set_cons_zero, List.set_cons_succ]
   rfl
 refine one_ (i := 6) (N := none) #[true, true, true, true, true, true, true, false] rfl rfl (one_of HT_.out (by kernel_rfl)) (by decide) (fun K hK => ?_)
 have hs15 : w14.cell? ⟨gb174, 0, none⟩ = some (.int .u64 0) := bc BK174 0; have hfs15 := blk_frozen BK174.out 0; have hns15_0 := NB167_174.out; have hns15_1 := NB168_174.out; have hns15_2 := NB169_174.out; have hns15_4 := NB175_174.out; have hms15_0 := NB174_167.out; have hms15_1 := NB174_168.out; have hms15_2 := NB174_169.out; have hms15_4 := NB174_175.out; have hs16 : w14.cell? ⟨gb174, 1, none⟩ = some (.int .u64 0) := bc BK174 1; have hfs16 := blk_frozen BK174.out 1; have hns16_0 := NB167_174.out; have hns16_1 := NB168_174.out; have hns16_2 := NB169_174.out; have hns16_4 := NB175_174.out; have hms16_0 := NB174_167.out; have hms16_1 := NB174_168.out; have hms16_2 := NB174_169.out; have hms16_4 := NB174_175.out
 refine skip_ (w1 := ?_) (by rfl) rfl ?_ ?_
 rotate_left
 · go_simp
   rfl
 refine hK.out _ _ ⟨((cell_far (p := ⟨gb174, _, none⟩) NB167_174.out _).trans (((cell_far (p := ⟨gb174, _, none⟩) NB167_174.out _).trans (hHeld.1)))), ((cell_far (p := ⟨gb174, _, none⟩) NB167_174.out _).trans (((cell_far (p := ⟨gb174, _, none⟩) NB167_174.out _).trans (hHeld.2.1)))), ((cell_far (p := ⟨gb174, _, none⟩) NB168_174.out _).trans (((cell_far (p := ⟨gb174, _, none⟩) NB168_174.out _).trans (hHeld.2.2.1)))), ((cell_far (p := ⟨gb174, _, none⟩) NB168_174.out _).trans (((cell_far (p := ⟨gb174, _, none⟩) NB168_174.out _).trans (hHeld.2.2.2))))⟩ (fun hHeld => ?_)
 clear hK K
 refine one_ (i := 7) (N := none) #[true, true, true, true, true, true, true, true] rfl rfl (one_of HT_.out (by kernel_rfl)) (by decide) (fun K hK => ?_)
 have hs17 : w14.cell? ⟨gb175, 0, none⟩ = some (.int .u64 0) := bc BK175 0; have hfs17 := blk_frozen BK175.out 0; have hns17_0 := NB167_175.out; have hns17_1 := NB168_175.out; have hns17_2 := NB169_175.out; have hns17_3 := NB174_175.out; have hms17_0 := NB175_167.out; have hms17_1 := NB175_168.out; have hms17_2 := NB175_169.out; have hms17_3 := NB175_174.out; have hs18 : w14.cell? ⟨gb175, 1, none⟩ = some (.int .u64 0) := bc BK175 1; have hfs18 := blk_frozen BK175.out 1; have hns18_0 := NB167_175.out; have hns18_1 := NB168_175.out; have hns18_2 := NB169_175.out; have hns18_3 := NB174_175.out; have hms18_0 := NB175_167.out; have hms18_1 := NB175_168.out; have hms18_2 := NB175_169.out; have hms18_3 := NB175_174.out
 refine skip_ (w1 := ?_) (by rfl) rfl ?_ ?_
 rotate_left
 · go_simp
   rfl
 refine hK.out _ _ ⟨((cell_far (p := ⟨gb175, _, none⟩) NB167_175.out _).trans (((cell_far (p := ⟨gb175, _, none⟩) NB167_175.out _).trans (hHeld.1)))), ((cell_far (p := ⟨gb175, _, none⟩) NB167_175.out _).trans (((cell_far (p := ⟨gb175, _, none⟩) NB167_175.out _).trans (hHeld.2.1)))), ((cell_far (p := ⟨gb175, _, none⟩) NB168_175.out _).trans (((cell_far (p := ⟨gb175, _, none⟩) NB168_175.out _).trans (hHeld.2.2.1)))), ((cell_far (p := ⟨gb175, _, none⟩) NB168_175.out _).trans (((cell_far (p := ⟨gb175, _, none⟩) NB168_175.out _).trans (hHeld.2.2.2))))⟩ (fun hHeld => ?_)
 clear hK K
 refine done_ (done_of HT_.out (by kernel_rfl)) ?_
 go_upto_region 2 with (fail)
 go_cut [25] (fun v25 wc => ∃ (kq : Nat) (x25_4 : Bool), v25 = .bool x25_4 ∧ Aside0 (wide_Mul.j0 kq x25_4 a0_0 a0_1 a1_0 a1_1 t170 t171 t172 t173 = some (r1, r2, r3)) ∧ Aside0 (kq ≤ k) ∧ Aside0 (wc.heap[gb167]? = some (.cells #[.int .i64 a0_0, .int .u64 a0_1] 24 (0, 0))) ∧ Aside0 (wc.heap[gb168]? = some (.cells #[.int .i64 a1_0, .int .u64 a1_1] 24 (0, 0))) ∧ Aside0 (wc.heap[gb169]? = some (.cells #[.int .i64 0, .int .u64 0] 24 (0, 0))) ∧ Aside0 (wc.heap[gb174]? = some (.cells #[.int .u64 t170, .int .u64 t171] 62 (0, 0))) ∧ Aside0 (wc.heap[gb175]? = some (.cells #[.int .u64 t172, .int .u64 t173] 62 (0, 0))) ∧ Aside0 (Below w.heap.size w wc))
 case first =>
  have H := HC5.out; clear HC5
  by_cases c19 : t171 > 0
  · rw [if_pos c19] at H
    have c19b0 : decide (0 < t171) = true := decide_eq_true c19; clear c19
    (first | rw [c19b0] | (simp only [i64_w, i32_w]; rw [c19b0]) | skip)
    have H' := Aside0.mk H; clear H; have hnb20 := NB174_167.out; have hnc20 := NB167_174.out; have hnb21 := NB174_168.out; have hnc21 := NB168_174.out; have hnb22 := NB174_169.out; have hnc22 := NB169_174.out; have hnb23 := NB174_175.out; have hnc23 := NB175_174.out; have hcz24_0 : w14.cell? ⟨gb174, 0, none⟩ = some (.int .u64 0) := bc BK174 0; have hcz24_1 : w14.cell? ⟨gb174, 1, none⟩ = some (.int .u64 0) := bc BK174 1; have hfz24_0 := blk_frozen BK174.out 0; have hfz24_1 := blk_frozen BK174.out 1; have hnb25 := NB175_167.out; have hnc25 := NB167_175.out; have hnb26 := NB175_168.out; have hnc26 := NB168_175.out; have hnb27 := NB175_169.out; have hnc27 := NB169_175.out; have hcz28_0 : w14.cell? ⟨gb175, 0, none⟩ = some (.int .u64 0) := bc BK175 0; have hcz28_1 : w14.cell? ⟨gb175, 1, none⟩ = some (.int .u64 0) := bc BK175 1; have hfz28_0 := blk_frozen BK175.out 0; have hfz28_1 := blk_frozen BK175.out 1
    go_wp2
    go_meet
    case rel => exact ⟨_, (decide (t173 > 0)), rs, H', ⟨by first | omega | exact Nat.le_refl _⟩, kf, kf, kf, ⟨blk_far (blk_far (blk_put (blk_put BK174.out 0 _ rfl) 1 _ rfl) NB174_175.out _) NB174_175.out _⟩, ⟨blk_put (blk_put (blk_far (blk_far BK175.out NB175_174.out _) NB175_174.out _) 0 _ rfl) 1 _ rfl⟩, ⟨bz⟩⟩
  · rw [if_neg c19] at H
    have c19b0 : decide (0 < t171) = false := decide_eq_false c19; clear c19
    (first | rw [c19b0] | (simp only [i64_w, i32_w]; rw [c19b0]) | skip)
    have H' := Aside0.mk H; clear H; have hnb29 := NB174_167.out; have hnc29 := NB167_174.out; have hnb30 := NB174_168.out; have hnc30 := NB168_174.out; have hnb31 := NB174_169.out; have hnc31 := NB169_174.out; have hnb32 := NB174_175.out; have hnc32 := NB175_174.out; have hcz33_0 : w14.cell? ⟨gb174, 0, none⟩ = some (.int .u64 0) := bc BK174 0; have hcz33_1 : w14.cell? ⟨gb174, 1, none⟩ = some (.int .u64 0) := bc BK174 1; have hfz33_0 := blk_frozen BK174.out 0; have hfz33_1 := blk_frozen BK174.out 1
    go_wp2
    go_meet
    case rel => exact ⟨_, (false), rs, H', ⟨by first | omega | exact Nat.le_refl _⟩, kf, kf, kf, ⟨blk_far (blk_far (blk_put (blk_put BK174.out 0 _ rfl) 1 _ rfl) NB174_175.out _) NB174_175.out _⟩, ⟨blk_put (blk_put (blk_far (blk_far BK175.out NB175_174.out _) NB175_174.out _) 0 _ rfl) 1 _ rfl⟩, ⟨bz⟩⟩
 case rest =>
  clear HC5
  try clear c1
  try clear c2
  try clear p2
  try clear c3
  try clear c6
  try clear c19
  try clear c19b0
  try clear c20
  try clear c21
  try clear c22
  try clear c23
  try clear c25
  try clear c26
  try clear c27
  try clear c29
  try clear c30
  try clear c31
  try clear c32
  try clear hcz24_0
  try clear hcz24_1
  try clear hcz28_0
  try clear hcz28_1
  try clear hcz33_0
  try clear hcz33_1
  try clear hfz24_0
  try clear hfz24_1
  try clear hfz28_0
  try clear hfz28_1
  try clear hfz33_0
  try clear hfz33_1
  obtain ⟨kq, x25_4, rfl, HA, HJ4, BK167, BK168, BK169, BK174, BK175, HB⟩ := hcut
  cases kq with
  | zero => exact absurd HA.out (by simp [wide_Mul.j0])
  | succ kj4 =>
   have H := HA.out; clear HA
   simp only [wide_Mul.j0] at H
   by_cases c34 : x25_4 = true
   · subst c34
     have H1 : (some (0, 0, 10)) = some (r1, r2, r3) := by rw [if_pos rfl] at H; exact H
     clear H; have H := H1; clear H1
     simp only [Option.some.injEq, Prod.mk.injEq] at H
     obtain ⟨rfl, rfl, rfl⟩ := H
     have hnb35 := NB169_167.out; have hnc35 := NB167_169.out; have hnb36 := NB169_168.out; have hnc36 := NB168_169.out; have hnb37 := NB169_174.out; have hnc37 := NB174_169.out; have hnb38 := NB169_175.out; have hnc38 := NB175_169.out; have hcz39_0 : wc.cell? ⟨gb169, 0, none⟩ = some (.int .i64 0) := bc BK169 0; have hcz39_1 : wc.cell? ⟨gb169, 1, none⟩ = some (.int .u64 0) := bc BK169 1; have hfz39_0 := blk_frozen BK169.out 0; have hfz39_1 := blk_frozen BK169.out 1
     go_wp2
     refine bodyPost_ret (results_ct rfl _ _ gb169 24 #[.int .i64 0, .int .u64 0] (0, 0) _ rfl (blk_put (blk_put BK169.out 0 _ rfl) 1 _ rfl) Tryd.underlying24 rfl (by kernel_rfl)) rfl ?_
     exact ⟨rg, bz⟩
   · replace c34 := Bool.eq_false_iff.mpr c34
     subst c34
     have H1 : (if t173 > 0 then (wide_Mul.j1 kj4 a0_0 a0_1 a1_0 a1_1 t172 t173 t170 t171) else (wide_Mul.j1 kj4 a0_0 a0_1 a1_0 a1_1 t170 t171 t172 t173)) = some (r1, r2, r3) := by rw [if_neg (show ¬ (false = true) by decide)] at H; exact H
     clear H; have H := H1; clear H1; have HC40 := Aside0.mk H; clear H; have hnb41 := NB175_167.out; have hnc41 := NB167_175.out; have hnb42 := NB175_168.out; have hnc42 := NB168_175.out; have hnb43 := NB175_169.out; have hnc43 := NB169_175.out; have hnb44 := NB175_174.out; have hnc44 := NB174_175.out; have hcz45_0 : wc.cell? ⟨gb175, 0, none⟩ = some (.int .u64 t172) := bc BK175 0; have hcz45_1 : wc.cell? ⟨gb175, 1, none⟩ = some (.int .u64 t173) := bc BK175 1; have hfz45_0 := blk_frozen BK175.out 0; have hfz45_1 := blk_frozen BK175.out 1
     go_upto_if 29 with (fail)
     go_cut [] (fun wc => ∃ (kq : Nat) (x175000_39 : Int) (x175001_39 : Int) (x176000_39 : Int) (x176001_39 : Int), Aside0 (wide_Mul.j1 kq a0_0 a0_1 a1_0 a1_1 x175000_39 x175001_39 x176000_39 x176001_39 = some (r1, r2, r3)) ∧ Aside0 (kq ≤ kj4) ∧ Aside0 (wc.heap[gb167]? = some (.cells #[.int .i64 a0_0, .int .u64 a0_1] 24 (0, 0))) ∧ Aside0 (wc.heap[gb168]? = some (.cells #[.int .i64 a1_0, .int .u64 a1_1] 24 (0, 0))) ∧ Aside0 (wc.heap[gb169]? = some (.cells #[.int .i64 0, .int .u64 0] 24 (0, 0))) ∧ Aside0 (wc.heap[gb174]? = some (.cells #[.int .u64 x175000_39, .int .u64 x175001_39] 62 (0, 0))) ∧ Aside0 (wc.heap[gb175]? = some (.cells #[.int .u64 x176000_39, .int .u64 x176001_39] 62 (0, 0))) ∧ Aside0 (Below w.heap.size w wc))
     case first =>
      have H := HC40.out; clear HC40
      by_cases c46 : t173 > 0
      · rw [if_pos c46] at H
        have c46b0 : decide (0 < t173) = true := decide_eq_true c46; clear c46
        (first | rw [c46b0] | (simp only [i64_w, i32_w]; rw [c46b0]) | skip)
        have H' := Aside0.mk H; clear H; have hnb47 := NB175_167.out; have hnc47 := NB167_175.out; have hnb48 := NB175_168.out; have hnc48 := NB168_175.out; have hnb49 := NB175_169.out; have hnc49 := NB169_175.out; have hnb50 := NB175_174.out; have hnc50 := NB174_175.out; have hcz51_0 : wc.cell? ⟨gb175, 0, none⟩ = some (.int .u64 t172) := bc BK175 0; have hcz51_1 : wc.cell? ⟨gb175, 1, none⟩ = some (.int .u64 t173) := bc BK175 1; have hfz51_0 := blk_frozen BK175.out 0; have hfz51_1 := blk_frozen BK175.out 1; have hnb52 := NB174_167.out; have hnc52 := NB167_174.out; have hnb53 := NB174_168.out; have hnc53 := NB168_174.out; have hnb54 := NB174_169.out; have hnc54 := NB169_174.out; have hcz55_0 : wc.cell? ⟨gb174, 0, none⟩ = some (.int .u64 t170) := bc BK174 0; have hcz55_1 : wc.cell? ⟨gb174, 1, none⟩ = some (.int .u64 t171) := bc BK174 1; have hfz55_0 := blk_frozen BK174.out 0; have hfz55_1 := blk_frozen BK174.out 1
        go_wp2
        go_meet
        case rel => exact ⟨_, (t172), (t173), (t170), (t171), H', ⟨by have := HJ4.out; first | omega | exact Nat.le_refl _⟩, kf, kf, kf, ⟨blk_far (blk_far (blk_put (blk_put BK174.out 0 _ rfl) 1 _ rfl) NB174_175.out _) NB174_175.out _⟩, ⟨blk_put (blk_put (blk_far (blk_far BK175.out NB175_174.out _) NB175_174.out _) 0 _ rfl) 1 _ rfl⟩, ⟨bz⟩⟩
      · rw [if_neg c46] at H
        have c46b0 : decide (0 < t173) = false := decide_eq_false c46; clear c46
        (first | rw [c46b0] | (simp only [i64_w, i32_w]; rw [c46b0]) | skip)
        have H' := Aside0.mk H; clear H
        go_wp2
        go_meet
        case rel => exact ⟨_, (t170), (t171), (t172), (t173), H', ⟨by have := HJ4.out; first | omega | exact Nat.le_refl _⟩, kf, kf, kf, kf, kf, ⟨bz⟩⟩
     case rest =>
      clear HC40
      try clear c1
      try clear c2
      try clear p2
      try clear c3
      try clear c4
      try clear c5
      try clear c6
      try clear c19
      try clear c19b0
      try clear c20
      try clear c21
      try clear c22
      try clear c23
      try clear c25
      try clear c26
      try clear c27
      try clear c29
      try clear c30
      try clear c31
      try clear c32
      try clear c34
      try clear c35
      try clear c36
      try clear c37
      try clear c38
      try clear c41
      try clear c42
      try clear c43
      try clear c44
      try clear c46
      try clear c46b0
      try clear c47
      try clear c48
      try clear c49
      try clear c50
      try clear c52
      try clear c53
      try clear c54
      try clear hcz24_0
      try clear hcz24_1
      try clear hcz28_0
      try clear hcz28_1
      try clear hcz33_0
      try clear hcz33_1
      try clear hcz39_0
      try clear hcz39_1
      try clear hcz45_0
      try clear hcz45_1
      try clear hcz51_0
      try clear hcz51_1
      try clear hcz55_0
      try clear hcz55_1
      try clear hfz24_0
      try clear hfz24_1
      try clear hfz28_0
      try clear hfz28_1
      try clear hfz33_0
      try clear hfz33_1
      try clear hfz39_0
      try clear hfz39_1
      try clear hfz45_0
      try clear hfz45_1
      try clear hfz51_0
      try clear hfz51_1
      try clear hfz55_0
      try clear hfz55_1
      try clear p2
      obtain ⟨kq, x175000_39, x175001_39, x176000_39, x176001_39, HA, HJ39, BK167, BK168, BK169, BK174, BK175, HB⟩ := hcut
      cases kq with
      | zero => exact absurd HA.out (by simp [wide_Mul.j1])
      | succ kj39 =>
       have H := HA.out; clear HA
       simp only [wide_Mul.j1] at H
       replace H := Option.bind_eq_some_iff.mp H
       obtain ⟨⟨t176, t177⟩, A560, H⟩ := H
       replace H : ((bits_Mul64.f x175001_39 x176000_39).bind fun bt178 => (if bt178.1 > 0 then (some (0, 0, 10)) else (if (addHi t176 bt178.2 0) > 0 then (some (0, 0, 10)) else ((wide_signed.f kj39 t177 (addLo t176 bt178.2 0) ((decide (a0_0 < 0)) != (decide (a1_0 < 0)))).bind fun bt180 => (some (bt180.1, bt180.2.1, bt180.2.2)))))) = some (r1, r2, r3) := H
       have A56 := Aside0.mk A560; clear A560
       replace H := Option.bind_eq_some_iff.mp H
       obtain ⟨⟨t178, t179⟩, A570, H⟩ := H
       replace H : (if t178 > 0 then (some (0, 0, 10)) else (if (addHi t176 t179 0) > 0 then (some (0, 0, 10)) else ((wide_signed.f kj39 t177 (addLo t176 t179 0) ((decide (a0_0 < 0)) != (decide (a1_0 < 0)))).bind fun bt180 => (some (bt180.1, bt180.2.1, bt180.2.2))))) = some (r1, r2, r3) := H
       have A57 := Aside0.mk A570; clear A570
       by_cases c58 : t178 > 0
       · rw [if_pos c58] at H
         have c58b0 : decide (0 < t178) = true := decide_eq_true c58; clear c58
         simp only [Option.some.injEq, Prod.mk.injEq] at H
         obtain ⟨rfl, rfl, rfl⟩ := H
         have hnb59 := NB174_167.out; have hnc59 := NB167_174.out; have hnb60 := NB174_168.out; have hnc60 := NB168_174.out; have hnb61 := NB174_169.out; have hnc61 := NB169_174.out; have hnb62 := NB174_175.out; have hnc62 := NB175_174.out; have hcz63_0 : wc.cell? ⟨gb174, 0, none⟩ = some (.int .u64 x175000_39) := bc BK174 0; have hcz63_1 : wc.cell? ⟨gb174, 1, none⟩ = some (.int .u64 x175001_39) := bc BK174 1; have hfz63_0 := blk_frozen BK174.out 0; have hfz63_1 := blk_frozen BK174.out 1; have hnb64 := NB175_167.out; have hnc64 := NB167_175.out; have hnb65 := NB175_168.out; have hnc65 := NB168_175.out; have hnb66 := NB175_169.out; have hnc66 := NB169_175.out; have hcz67_0 : wc.cell? ⟨gb175, 0, none⟩ = some (.int .u64 x176000_39) := bc BK175 0; have hcz67_1 : wc.cell? ⟨gb175, 1, none⟩ = some (.int .u64 x176001_39) := bc BK175 1; have hfz67_0 := blk_frozen BK175.out 0; have hfz67_1 := blk_frozen BK175.out 1
         go_wp2_with (first | ((with_reducible refine gate_callee (f := 70) rfl ?_); refine goesL_ (some 37) rfl rfl Tryd.func70 (by kernel_rfl) rfl #[.int .u64 x175000_39, .int .u64 x176000_39] rfl rf ?_; (with_reducible refine (bits_Mul64.calls x175000_39 x176000_39 t176 t177 _ A56.out).mono ?_); rintro e w68 ⟨rfl, hb⟩; refine ⟨_, rfl, ?_⟩; replace BK167 := am (bb BK167 hb); replace BK168 := am (bb BK168 hb); replace BK169 := am (bb BK169 hb); replace BK174 := am (bb BK174 hb); replace BK175 := am (bb BK175 hb); replace HB := am (below_step bz hb); (try clear hb); (try clear hb2); (try clear hk); (try clear hi); have hcz69_0 : w68.cell? ⟨gb174, 0, none⟩ = some (.int .u64 x175000_39) := bc BK174 0; have hcz69_1 : w68.cell? ⟨gb174, 1, none⟩ = some (.int .u64 x175001_39) := bc BK174 1; have hfz69_0 := blk_frozen BK174.out 0; have hfz69_1 := blk_frozen BK174.out 1; have hcz70_0 : w68.cell? ⟨gb175, 0, none⟩ = some (.int .u64 x176000_39) := bc BK175 0; have hcz70_1 : w68.cell? ⟨gb175, 1, none⟩ = some (.int .u64 x176001_39) := bc BK175 1; have hfz70_0 := blk_frozen BK175.out 0; have hfz70_1 := blk_frozen BK175.out 1) | ((with_reducible refine gate_callee (f := 70) rfl ?_); refine goesL_ (some 45) rfl rfl Tryd.func70 (by kernel_rfl) rfl #[.int .u64 x175001_39, .int .u64 x176000_39] rfl rf ?_; (with_reducible refine (bits_Mul64.calls x175001_39 x176000_39 t178 t179 _ A57.out).mono ?_); rintro e w71 ⟨rfl, hb⟩; refine ⟨_, rfl, ?_⟩; replace BK167 := am (bb BK167 hb); replace BK168 := am (bb BK168 hb); replace BK169 := am (bb BK169 hb); replace BK174 := am (bb BK174 hb); replace BK175 := am (bb BK175 hb); replace HB := am (below_step bz hb); (try clear hb); (try clear hb2); (try clear hk); (try clear hi); have hnb72 := NB169_167.out; have hnc72 := NB167_169.out; have hnb73 := NB169_168.out; have hnc73 := NB168_169.out; have hcz74_0 : w71.cell? ⟨gb169, 0, none⟩ = some (.int .i64 0) := bc BK169 0; have hcz74_1 : w71.cell? ⟨gb169, 1, none⟩ = some (.int .u64 0) := bc BK169 1; have hfz74_0 := blk_frozen BK169.out 0; have hfz74_1 := blk_frozen BK169.out 1))
         refine bodyPost_ret (results_ct rfl _ _ gb169 24 #[.int .i64 0, .int .u64 0] (0, 0) _ rfl (blk_put (blk_put BK169.out 0 _ rfl) 1 _ rfl) Tryd.underlying24 rfl (by kernel_rfl)) rfl ?_
         exact ⟨rg, bz⟩
       · rw [if_neg c58] at H
         have c58b0 : decide (0 < t178) = false := decide_eq_false c58; clear c58
         by_cases c75 : (addHi t176 t179 0) > 0
         · rw [if_pos c75] at H
           have c75b0 : decide (0 < (addHi t176 t179 0)) = true := decide_eq_true c75; clear c75
           simp only [Option.some.injEq, Prod.mk.injEq] at H
           obtain ⟨rfl, rfl, rfl⟩ := H
           have hnb76 := NB174_167.out; have hnc76 := NB167_174.out; have hnb77 := NB174_168.out; have hnc77 := NB168_174.out; have hnb78 := NB174_169.out; have hnc78 := NB169_174.out; have hnb79 := NB174_175.out; have hnc79 := NB175_174.out; have hcz80_0 : wc.cell? ⟨gb174, 0, none⟩ = some (.int .u64 x175000_39) := bc BK174 0; have hcz80_1 : wc.cell? ⟨gb174, 1, none⟩ = some (.int .u64 x175001_39) := bc BK174 1; have hfz80_0 := blk_frozen BK174.out 0; have hfz80_1 := blk_frozen BK174.out 1; have hnb81 := NB175_167.out; have hnc81 := NB167_175.out; have hnb82 := NB175_168.out; have hnc82 := NB168_175.out; have hnb83 := NB175_169.out; have hnc83 := NB169_175.out; have hcz84_0 : wc.cell? ⟨gb175, 0, none⟩ = some (.int .u64 x176000_39) := bc BK175 0; have hcz84_1 : wc.cell? ⟨gb175, 1, none⟩ = some (.int .u64 x176001_39) := bc BK175 1; have hfz84_0 := blk_frozen BK175.out 0; have hfz84_1 := blk_frozen BK175.out 1
           go_wp2_with (first | ((with_reducible refine gate_callee (f := 70) rfl ?_); refine goesL_ (some 37) rfl rfl Tryd.func70 (by kernel_rfl) rfl #[.int .u64 x175000_39, .int .u64 x176000_39] rfl rf ?_; (with_reducible refine (bits_Mul64.calls x175000_39 x176000_39 t176 t177 _ A56.out).mono ?_); rintro e w85 ⟨rfl, hb⟩; refine ⟨_, rfl, ?_⟩; replace BK167 := am (bb BK167 hb); replace BK168 := am (bb BK168 hb); replace BK169 := am (bb BK169 hb); replace BK174 := am (bb BK174 hb); replace BK175 := am (bb BK175 hb); replace HB := am (below_step bz hb); (try clear hb); (try clear hb2); (try clear hk); (try clear hi); have hcz86_0 : w85.cell? ⟨gb174, 0, none⟩ = some (.int .u64 x175000_39) := bc BK174 0; have hcz86_1 : w85.cell? ⟨gb174, 1, none⟩ = some (.int .u64 x175001_39) := bc BK174 1; have hfz86_0 := blk_frozen BK174.out 0; have hfz86_1 := blk_frozen BK174.out 1; have hcz87_0 : w85.cell? ⟨gb175, 0, none⟩ = some (.int .u64 x176000_39) := bc BK175 0; have hcz87_1 : w85.cell? ⟨gb175, 1, none⟩ = some (.int .u64 x176001_39) := bc BK175 1; have hfz87_0 := blk_frozen BK175.out 0; have hfz87_1 := blk_frozen BK175.out 1) | ((with_reducible refine gate_callee (f := 70) rfl ?_); refine goesL_ (some 45) rfl rfl Tryd.func70 (by kernel_rfl) rfl #[.int .u64 x175001_39, .int .u64 x176000_39] rfl rf ?_; (with_reducible refine (bits_Mul64.calls x175001_39 x176000_39 t178 t179 _ A57.out).mono ?_); rintro e w88 ⟨rfl, hb⟩; refine ⟨_, rfl, ?_⟩; replace BK167 := am (bb BK167 hb); replace BK168 := am (bb BK168 hb); replace BK169 := am (bb BK169 hb); replace BK174 := am (bb BK174 hb); replace BK175 := am (bb BK175 hb); replace HB := am (below_step bz hb); (try clear hb); (try clear hb2); (try clear hk); (try clear hi); have hnb89 := NB169_167.out; have hnc89 := NB167_169.out; have hnb90 := NB169_168.out; have hnc90 := NB168_169.out; have hcz91_0 : w88.cell? ⟨gb169, 0, none⟩ = some (.int .i64 0) := bc BK169 0; have hcz91_1 : w88.cell? ⟨gb169, 1, none⟩ = some (.int .u64 0) := bc BK169 1; have hfz91_0 := blk_frozen BK169.out 0; have hfz91_1 := blk_frozen BK169.out 1))
           refine bodyPost_ret (results_ct rfl _ _ gb169 24 #[.int .i64 0, .int .u64 0] (0, 0) _ rfl (blk_put (blk_put BK169.out 0 _ rfl) 1 _ rfl) Tryd.underlying24 rfl (by kernel_rfl)) rfl ?_
           exact ⟨rg, bz⟩
         · rw [if_neg c75] at H
           have c75b0 : decide (0 < (addHi t176 t179 0)) = false := decide_eq_false c75; clear c75
           replace H := Option.bind_eq_some_iff.mp H
           obtain ⟨⟨t180, t181, t182⟩, A920, H⟩ := H
           replace H : (some (t180, t181, t182)) = some (r1, r2, r3) := H
           have A92 := Aside0.mk A920; clear A920
           simp only [Option.some.injEq, Prod.mk.injEq] at H
           obtain ⟨rfl, rfl, rfl⟩ := H
           have hnb93 := NB174_167.out; have hnc93 := NB167_174.out; have hnb94 := NB174_168.out; have hnc94 := NB168_174.out; have hnb95 := NB174_169.out; have hnc95 := NB169_174.out; have hnb96 := NB174_175.out; have hnc96 := NB175_174.out; have hcz97_0 : wc.cell? ⟨gb174, 0, none⟩ = some (.int .u64 x175000_39) := bc BK174 0; have hcz97_1 : wc.cell? ⟨gb174, 1, none⟩ = some (.int .u64 x175001_39) := bc BK174 1; have hfz97_0 := blk_frozen BK174.out 0; have hfz97_1 := blk_frozen BK174.out 1; have hnb98 := NB175_167.out; have hnc98 := NB167_175.out; have hnb99 := NB175_168.out; have hnc99 := NB168_175.out; have hnb100 := NB175_169.out; have hnc100 := NB169_175.out; have hcz101_0 : wc.cell? ⟨gb175, 0, none⟩ = some (.int .u64 x176000_39) := bc BK175 0; have hcz101_1 : wc.cell? ⟨gb175, 1, none⟩ = some (.int .u64 x176001_39) := bc BK175 1; have hfz101_0 := blk_frozen BK175.out 0; have hfz101_1 := blk_frozen BK175.out 1
           go_wp2_with (first | ((with_reducible refine gate_callee (f := 70) rfl ?_); refine goesL_ (some 37) rfl rfl Tryd.func70 (by kernel_rfl) rfl #[.int .u64 x175000_39, .int .u64 x176000_39] rfl rf ?_; (with_reducible refine (bits_Mul64.calls x175000_39 x176000_39 t176 t177 _ A56.out).mono ?_); rintro e w102 ⟨rfl, hb⟩; refine ⟨_, rfl, ?_⟩; replace BK167 := am (bb BK167 hb); replace BK168 := am (bb BK168 hb); replace BK169 := am (bb BK169 hb); replace BK174 := am (bb BK174 hb); replace BK175 := am (bb BK175 hb); replace HB := am (below_step bz hb); (try clear hb); (try clear hb2); (try clear hk); (try clear hi); have hcz103_0 : w102.cell? ⟨gb174, 0, none⟩ = some (.int .u64 x175000_39) := bc BK174 0; have hcz103_1 : w102.cell? ⟨gb174, 1, none⟩ = some (.int .u64 x175001_39) := bc BK174 1; have hfz103_0 := blk_frozen BK174.out 0; have hfz103_1 := blk_frozen BK174.out 1; have hcz104_0 : w102.cell? ⟨gb175, 0, none⟩ = some (.int .u64 x176000_39) := bc BK175 0; have hcz104_1 : w102.cell? ⟨gb175, 1, none⟩ = some (.int .u64 x176001_39) := bc BK175 1; have hfz104_0 := blk_frozen BK175.out 0; have hfz104_1 := blk_frozen BK175.out 1) | ((with_reducible refine gate_callee (f := 70) rfl ?_); refine goesL_ (some 45) rfl rfl Tryd.func70 (by kernel_rfl) rfl #[.int .u64 x175001_39, .int .u64 x176000_39] rfl rf ?_; (with_reducible refine (bits_Mul64.calls x175001_39 x176000_39 t178 t179 _ A57.out).mono ?_); rintro e w105 ⟨rfl, hb⟩; refine ⟨_, rfl, ?_⟩; replace BK167 := am (bb BK167 hb); replace BK168 := am (bb BK168 hb); replace BK169 := am (bb BK169 hb); replace BK174 := am (bb BK174 hb); replace BK175 := am (bb BK175 hb); replace HB := am (below_step bz hb); (try clear hb); (try clear hb2); (try clear hk); (try clear hi); have hnb106 := NB167_168.out; have hnc106 := NB168_167.out; have hnb107 := NB167_169.out; have hnc107 := NB169_167.out; have hcz108_0 : w105.cell? ⟨gb167, 0, none⟩ = some (.int .i64 a0_0) := bc BK167 0; have hcz108_1 : w105.cell? ⟨gb167, 1, none⟩ = some (.int .u64 a0_1) := bc BK167 1; have hfz108_0 := blk_frozen BK167.out 0; have hfz108_1 := blk_frozen BK167.out 1; have hnb109 := NB168_169.out; have hnc109 := NB169_168.out; have hcz110_0 : w105.cell? ⟨gb168, 0, none⟩ = some (.int .i64 a1_0) := bc BK168 0; have hcz110_1 : w105.cell? ⟨gb168, 1, none⟩ = some (.int .u64 a1_1) := bc BK168 1; have hfz110_0 := blk_frozen BK168.out 0; have hfz110_1 := blk_frozen BK168.out 1) | ((with_reducible refine gate_callee (f := 72) rfl ?_); refine goesL_ (some 71) rfl rfl Tryd.func72 (by kernel_rfl) rfl #[.agg #[.int .u64 t177, .int .u64 (addLo t176 t179 0)], .bool ((decide (a0_0 < 0)) != (decide (a1_0 < 0)))] rfl rf ?_; (with_reducible refine (wide_signed.calls kj39 t177 (addLo t176 t179 0) ((decide (a0_0 < 0)) != (decide (a1_0 < 0))) t180 t181 t182 _ A92.out).mono ?_); rintro e w111 ⟨rfl, hb⟩; refine ⟨_, rfl, ?_⟩; replace BK167 := am (bb BK167 hb); replace BK168 := am (bb BK168 hb); replace BK169 := am (bb BK169 hb); replace BK174 := am (bb BK174 hb); replace BK175 := am (bb BK175 hb); replace HB := am (below_step bz hb); (try clear hb); (try clear hb2); (try clear hk); (try clear hi); have hcz112_0 : w111.cell? ⟨gb169, 0, none⟩ = some (.int .i64 0) := bc BK169 0; have hcz112_1 : w111.cell? ⟨gb169, 1, none⟩ = some (.int .u64 0) := bc BK169 1; have hfz112_0 := blk_frozen BK169.out 0; have hfz112_1 := blk_frozen BK169.out 1))
           refine bodyPost_ret (results_ct rfl _ _ gb169 24 #[.int .i64 t180, .int .u64 t181] (0, 0) _ rfl (blk_put (blk_put BK169.out 0 _ rfl) 1 _ rfl) Tryd.underlying24 rfl (by kernel_rfl)) rfl ?_
           exact ⟨rg, bz⟩

end Go.Proofs.YtcfhmbhlibhlnaaDoor.P
