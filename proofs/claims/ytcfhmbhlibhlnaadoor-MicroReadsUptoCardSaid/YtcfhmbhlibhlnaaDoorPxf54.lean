-- Printed by this session's own pp.py (wip/tool) out of the translation.
import Derived.Test.YtcfhmbhlibhlnaaDoorPx0
import Derived.Test.YtcfhmbhlibhlnaaDoorPxf25
import Derived.Test.YtcfhmbhlibhlnaaDoorPxg0
import Derived.Test.YtcfhmbhlibhlnaaDoorPxg1
namespace Go.Proofs.YtcfhmbhlibhlnaaDoor.P
open Go.RowKit Go.Proofs.YtcfhmbhlibhlnaaDoorW.PrintWords Go.Proofs.YtcfhmbhlibhlnaaDoorW.PrintLast Go.Proofs.YtcfhmbhlibhlnaaDoorW.PrintMore Go.Proofs.YtcfhmbhlibhlnaaDoor.Mine
attribute [local go_sem] ext71 ext79 eqA61 eqA62
attribute [local go_sem] max2_int min2_int max_two min_two max_three min_three max_four min_four   -- for this text's walks alone
set_option linter.unusedVariables false
set_option linter.unusedSimpArgs false

/-! ### micro_Show: function 54 -/
mutual
def micro_Show.j0 : Nat → ByteArray → Int → Int → Option (ByteArray)
 | 0, _, _, _ => none
 | k + 1, x6, x936000, x936001 => (wide_Small.f x936000 x936001).bind fun bt945 => (if bt945.1 = 0 then (some x6) else ((strconv_FormatInt.f (wrap64 (1000000 + bt945.1)) 10).bind fun t947 => (if 1 ≤ (t947.size : Int) then (micro_Show.l0 k x6 (t947.extract 1 t947.size)) else (none))))
def micro_Show.l0 : Nat → ByteArray → ByteArray → Option (ByteArray)
 | 0, _, _ => none
 | k + 1, x6, x9 => if 0 ≤ (wrap64 ((x9.size : Int) - 1)) then (if (wrap64 ((x9.size : Int) - 1)) < (x9.size : Int) then (if (bt x9 (wrap64 ((x9.size : Int) - 1))) = 48 then (if (wrap64 ((x9.size : Int) - 1)) ≤ (x9.size : Int) then (micro_Show.l0 k x6 (x9.extract 0 ((wrap64 ((x9.size : Int) - 1)) : Int).toNat)) else (none)) else (if x6.size + 1 ≤ 9223372036854775807 then (if (x6 ++ (⟨#[46]⟩ : ByteArray)).size + x9.size ≤ 9223372036854775807 then (some ((x6 ++ (⟨#[46]⟩ : ByteArray)) ++ x9)) else (none)) else (none))) else (none)) else (none)
end
def micro_Show.f (k : Nat) (a0_0 : Int) (a0_1 : Int) : Option (ByteArray) := (wide_Of.f 1000000).bind fun bt927 => ((wide_Quo.f k a0_0 a0_1 bt927.1 bt927.2).bind fun bt929 => ((wide_Print.f k bt929.1 bt929.2.1).bind fun t936 => ((wide_Sign.f a0_0 a0_1).bind fun t937 => (if t937 < 0 then ((wide_Sign.f bt929.1 bt929.2.1).bind fun t938 => (if t938 = 0 then ((wide_Neg.f bt929.2.2.1 bt929.2.2.2.1).bind fun bt939 => (micro_Show.j0 k (⟨#[45, 48]⟩ : ByteArray) bt939.1 bt939.2.1)) else ((wide_Neg.f bt929.2.2.1 bt929.2.2.2.1).bind fun bt942 => (micro_Show.j0 k t936 bt942.1 bt942.2.1)))) else (micro_Show.j0 k t936 bt929.2.2.1 bt929.2.2.2.1)))))
theorem micro_Show.mono_l : ∀ k, (∀ y0 y1 y2, LeO (micro_Show.j0 k y0 y1 y2) (micro_Show.j0 (k + 1) y0 y1 y2)) ∧ (∀ y0 y1, LeO (micro_Show.l0 k y0 y1) (micro_Show.l0 (k + 1) y0 y1))
 | 0 => ⟨fun _ _ _ r h => by simp [micro_Show.j0] at h, fun _ _ r h => by simp [micro_Show.l0] at h⟩
 | k + 1 => by
  obtain ⟨ih0, ih1⟩ := micro_Show.mono_l k
  refine ⟨?_, ?_⟩
  · intro y0 y1 y2
    unfold micro_Show.j0
    repeat' first
    | (with_reducible exact ih0 _ _ _)
    | (with_reducible exact ih1 _ _)
    | (with_reducible exact wide_Print.mono _ _ _)
    | (with_reducible exact wide_Quo.mono _ _ _ _ _)
    | (with_reducible exact LeO.refl _)
    | (with_reducible exact LeO.none _)
    | (with_reducible refine LeO.ite ?_ ?_)
    | (with_reducible refine LeO.bind ?_ (fun _ => ?_))
    | exact ih0 _ _ _
    | exact ih1 _ _
    | exact wide_Print.mono _ _ _
    | exact wide_Quo.mono _ _ _ _ _
    | exact LeO.none _
    | refine LeO.ite ?_ ?_
    | refine LeO.bind ?_ (fun _ => ?_)
  · intro y0 y1
    unfold micro_Show.l0
    repeat' first
    | (with_reducible exact ih0 _ _ _)
    | (with_reducible exact ih1 _ _)
    | (with_reducible exact wide_Print.mono _ _ _)
    | (with_reducible exact wide_Quo.mono _ _ _ _ _)
    | (with_reducible exact LeO.refl _)
    | (with_reducible exact LeO.none _)
    | (with_reducible refine LeO.ite ?_ ?_)
    | (with_reducible refine LeO.bind ?_ (fun _ => ?_))
    | exact ih0 _ _ _
    | exact ih1 _ _
    | exact wide_Print.mono _ _ _
    | exact wide_Quo.mono _ _ _ _ _
    | exact LeO.none _
    | refine LeO.ite ?_ ?_
    | refine LeO.bind ?_ (fun _ => ?_)
theorem micro_Show.mono : ∀ a0 a1 k, LeO (micro_Show.f k a0 a1) (micro_Show.f (k + 1) a0 a1) := by
 intro a0 a1 k
 obtain ⟨ih0, ih1⟩ := micro_Show.mono_l k
 unfold micro_Show.f
 repeat' first
  | (with_reducible exact ih0 _ _ _)
  | (with_reducible exact ih1 _ _)
  | (with_reducible exact wide_Print.mono _ _ _)
  | (with_reducible exact wide_Quo.mono _ _ _ _ _)
  | (with_reducible exact LeO.refl _)
  | (with_reducible exact LeO.none _)
  | (with_reducible refine LeO.ite ?_ ?_)
  | (with_reducible refine LeO.bind ?_ (fun _ => ?_))
  | exact ih0 _ _ _
  | exact ih1 _ _
  | exact wide_Print.mono _ _ _
  | exact wide_Quo.mono _ _ _ _ _
  | exact LeO.none _
  | refine LeO.ite ?_ ?_
  | refine LeO.bind ?_ (fun _ => ?_)
def micro_Show.T1 : Bool × List (List Nat × List Nat) := (true, [([], []), ([], []), ([0, 1, 1], [0, 1]), ([2], [2]), ([3], [3]), ([3], [3]), ([3], [3]), ([], []), ([], []), ([7, 4, 2, 0, 1, 2, 3, 4, 7, 8], [4, 7]), ([8, 5, 9, 0, 1, 2, 3, 4, 5, 7, 8, 9], [5, 8]), ([6, 10, 0, 1, 2, 3, 4, 5, 6, 7, 8, 9, 10], [6])])
def micro_Show.B1 : List Nat := [0, 0, 3, 7, 15, 15, 15, 0, 0, 415, 959, 2047]
theorem micro_Show.tab1 : rtab .any (opsOf Tryd.f54 1) = micro_Show.T1 := by kernel_rfl
theorem micro_Show.bits1 : waitsOk micro_Show.T1.2 micro_Show.B1 = true := by kernel_rfl
set_option maxHeartbeats 8000000 in
set_option maxRecDepth 100000 in
theorem micro_Show.calls (k : Nat) (a0_0 : Int) (a0_1 : Int) (r : ByteArray) (w : World) (hT : Aside0 (WF w)) (h : micro_Show.f k a0_0 a0_1 = some r) :
 Calls Tryd.prog 54 #[.agg #[.int .i64 a0_0, .int .u64 a0_1]] w fun e w' => e = .returned (.string r) ∧ Below w.heap.size w w' := by
 have hu24 := Tryd.underlying24; have HB := am (Below.refl w.heap.size w); have H : ((wide_Of.f 1000000).bind fun bt927 => ((wide_Quo.f k a0_0 a0_1 bt927.1 bt927.2).bind fun bt929 => ((wide_Print.f k bt929.1 bt929.2.1).bind fun t936 => ((wide_Sign.f a0_0 a0_1).bind fun t937 => (if t937 < 0 then ((wide_Sign.f bt929.1 bt929.2.1).bind fun t938 => (if t938 = 0 then ((wide_Neg.f bt929.2.2.1 bt929.2.2.2.1).bind fun bt939 => (micro_Show.j0 k (⟨#[45, 48]⟩ : ByteArray) bt939.1 bt939.2.1)) else ((wide_Neg.f bt929.2.2.1 bt929.2.2.2.1).bind fun bt942 => (micro_Show.j0 k t936 bt942.1 bt942.2.1)))) else (micro_Show.j0 k t936 bt929.2.2.1 bt929.2.2.2.1)))))) = some r := h; clear h
 replace H := Option.bind_eq_some_iff.mp H
 obtain ⟨⟨t927, t928⟩, A20, H⟩ := H
 replace H : ((wide_Quo.f k a0_0 a0_1 t927 t928).bind fun bt929 => ((wide_Print.f k bt929.1 bt929.2.1).bind fun t936 => ((wide_Sign.f a0_0 a0_1).bind fun t937 => (if t937 < 0 then ((wide_Sign.f bt929.1 bt929.2.1).bind fun t938 => (if t938 = 0 then ((wide_Neg.f bt929.2.2.1 bt929.2.2.2.1).bind fun bt939 => (micro_Show.j0 k (⟨#[45, 48]⟩ : ByteArray) bt939.1 bt939.2.1)) else ((wide_Neg.f bt929.2.2.1 bt929.2.2.2.1).bind fun bt942 => (micro_Show.j0 k t936 bt942.1 bt942.2.1)))) else (micro_Show.j0 k t936 bt929.2.2.1 bt929.2.2.2.1))))) = some r := H
 have A2 := Aside0.mk A20; clear A20
 replace H := Option.bind_eq_some_iff.mp H
 obtain ⟨⟨t929, t930, t931, t932, t933⟩, A30, H⟩ := H
 replace H : ((wide_Print.f k t929 t930).bind fun t936 => ((wide_Sign.f a0_0 a0_1).bind fun t937 => (if t937 < 0 then ((wide_Sign.f t929 t930).bind fun t938 => (if t938 = 0 then ((wide_Neg.f t931 t932).bind fun bt939 => (micro_Show.j0 k (⟨#[45, 48]⟩ : ByteArray) bt939.1 bt939.2.1)) else ((wide_Neg.f t931 t932).bind fun bt942 => (micro_Show.j0 k t936 bt942.1 bt942.2.1)))) else (micro_Show.j0 k t936 t931 t932)))) = some r := H
 have A3 := Aside0.mk A30; clear A30
 replace H := Option.bind_eq_some_iff.mp H
 obtain ⟨t936, A40, H⟩ := H
 replace H : ((wide_Sign.f a0_0 a0_1).bind fun t937 => (if t937 < 0 then ((wide_Sign.f t929 t930).bind fun t938 => (if t938 = 0 then ((wide_Neg.f t931 t932).bind fun bt939 => (micro_Show.j0 k (⟨#[45, 48]⟩ : ByteArray) bt939.1 bt939.2.1)) else ((wide_Neg.f t931 t932).bind fun bt942 => (micro_Show.j0 k t936 bt942.1 bt942.2.1)))) else (micro_Show.j0 k t936 t931 t932))) = some r := H
 have A4 := Aside0.mk A40; clear A40
 replace H := Option.bind_eq_some_iff.mp H
 obtain ⟨t937, A50, H⟩ := H
 replace H : (if t937 < 0 then ((wide_Sign.f t929 t930).bind fun t938 => (if t938 = 0 then ((wide_Neg.f t931 t932).bind fun bt939 => (micro_Show.j0 k (⟨#[45, 48]⟩ : ByteArray) bt939.1 bt939.2.1)) else ((wide_Neg.f t931 t932).bind fun bt942 => (micro_Show.j0 k t936 bt942.1 bt942.2.1)))) else (micro_Show.j0 k t936 t931 t932)) = some r := H
 have A5 := Aside0.mk A50; clear A50; have HC6 := Aside0.mk H; clear H
 go_enter Tryd.func54, Tryd.ntmps54
 try go_wp2_with (first | ((with_reducible refine gate_dst (N := 1) rfl ?_); refine box_event (by rfl) (N := 1) (by rfl) (cs := #[.int .i64 a0_0, .int .u64 a0_1]) (t := 24) (by go_simp <;> rfl) ?_; intro gb926 hg w7 hbox hb; have BK926 := am (hbox); have GW926 := gw w hg; replace HB := am (below_step bz hb); clear hb hbox hg))
 replace BK926 := am (blk_drew BK926.out); replace HB := am (below_drew1 HB.out)
 refine start_ (n := 12) (S := fun w' => w'.cell? ⟨gb926, 0, none⟩ = some (.int .i64 a0_0) ∧ w'.cell? ⟨gb926, 1, none⟩ = some (.int .u64 a0_1)) (ds := []) #[false, false, false, false, false, false, false, false, false, false, false, false] (by kernel_rfl) rfl rfl ⟨bc BK926 0, bc BK926 1⟩ (fun hHeld => ?_); refine with_tabW micro_Show.tab1 micro_Show.bits1 (fun HT_ HW_ => ?_)
 generalize w7.drew = w8 at BK926 HB hHeld ⊢
 refine take_ (i := 0) (N := some 11) (v := ?_) (a' := ?_) #[true, false, false, false, false, false, false, false, false, false, false, false] rfl rfl (take_ofW HT_.out HW_.out (by kernel_rfl)) (fun _ _ _ h => h) (Or.inl ⟨by rfl, ?_⟩) hHeld ?_ ?_
 rotate_left
 · rintro w' ⟨s0, s1⟩
   go_simp
   with_reducible rfl
 rotate_left
 · simp only [Act.put, List.setIfInBounds_toArray, List.set_cons_zero, List.set_cons_succ, i64_w, i32_w]
   rfl
 refine join_ (σ := Nat × Nat) 3 #[true, true, true, true, true, true, true, true, true, false, false, false] (fun s_ => [(12, .agg #[.int .i64 t927, .int .u64 t928]), (13, .tuple #[.agg #[.int .i64 t929, .int .u64 t930], .agg #[.int .i64 t931, .int .u64 t932], .int .i64 t933]), (3, .pointer (some ⟨s_.1, 0, none⟩)), (4, .pointer (some ⟨s_.2, 0, none⟩)), (10, .tuple #[.agg #[.int .i64 t929, .int .u64 t930], .agg #[.int .i64 t931, .int .u64 t932], .int .i64 t933]), (14, .agg #[.int .i64 t929, .int .u64 t930]), (15, .agg #[.int .i64 t931, .int .u64 t932]), (16, .int .i64 t933)]) (fun s_ w' => (w'.cell? ⟨gb926, 0, none⟩ = some (.int .i64 a0_0) ∧ w'.cell? ⟨gb926, 1, none⟩ = some (.int .u64 a0_1)) ∧ (w'.heap[gb926]? = some (.cells #[.int .i64 a0_0, .int .u64 a0_1] 24 (0, 0))) ∧ (w'.heap[s_.1]? = some (.cells #[.int .i64 0, .int .u64 0] 24 (0, 0))) ∧ (w'.heap[s_.2]? = some (.cells #[.int .i64 0, .int .u64 0] 24 (0, 0))) ∧ (w.heap.size ≤ s_.1) ∧ (gb926 ≠ s_.1) ∧ (s_.1 ≠ gb926) ∧ (s_.2 ≠ s_.1) ∧ (s_.1 ≠ s_.2) ∧ (w.heap.size ≤ s_.2) ∧ (gb926 ≠ s_.2) ∧ (s_.2 ≠ gb926) ∧ (Below w.heap.size w w')) ?_ ?_
 rotate_left
 · intro hJ1_2_7_8
   refine join_ (σ := Nat) 4 #[true, true, true, true, true, true, true, true, false, false, false, false] (fun s_ => [(12, .agg #[.int .i64 t927, .int .u64 t928]), (13, .tuple #[.agg #[.int .i64 t929, .int .u64 t930], .agg #[.int .i64 t931, .int .u64 t932], .int .i64 t933]), (3, .pointer (some ⟨s_, 0, none⟩)), (10, .tuple #[.agg #[.int .i64 t929, .int .u64 t930], .agg #[.int .i64 t931, .int .u64 t932], .int .i64 t933]), (14, .agg #[.int .i64 t929, .int .u64 t930]), (15, .agg #[.int .i64 t931, .int .u64 t932]), (16, .int .i64 t933)]) (fun s_ w' => (w'.cell? ⟨gb926, 0, none⟩ = some (.int .i64 a0_0) ∧ w'.cell? ⟨gb926, 1, none⟩ = some (.int .u64 a0_1)) ∧ (w'.heap[gb926]? = some (.cells #[.int .i64 a0_0, .int .u64 a0_1] 24 (0, 0))) ∧ (w'.heap[s_]? = some (.cells #[.int .i64 0, .int .u64 0] 24 (0, 0))) ∧ (w.heap.size ≤ s_) ∧ (gb926 ≠ s_) ∧ (s_ ≠ gb926) ∧ (Below w.heap.size w w')) ?_ ?_
   rotate_left
   · intro hJ1_2_7
     refine join_ (σ := Nat) 4 #[true, true, true, true, true, true, true, false, true, false, false, false] (fun s_ => [(12, .agg #[.int .i64 t927, .int .u64 t928]), (13, .tuple #[.agg #[.int .i64 t929, .int .u64 t930], .agg #[.int .i64 t931, .int .u64 t932], .int .i64 t933]), (4, .pointer (some ⟨s_, 0, none⟩)), (10, .tuple #[.agg #[.int .i64 t929, .int .u64 t930], .agg #[.int .i64 t931, .int .u64 t932], .int .i64 t933]), (14, .agg #[.int .i64 t929, .int .u64 t930]), (15, .agg #[.int .i64 t931, .int .u64 t932]), (16, .int .i64 t933)]) (fun s_ w' => (w'.cell? ⟨gb926, 0, none⟩ = some (.int .i64 a0_0) ∧ w'.cell? ⟨gb926, 1, none⟩ = some (.int .u64 a0_1)) ∧ (w'.heap[gb926]? = some (.cells #[.int .i64 a0_0, .int .u64 a0_1] 24 (0, 0))) ∧ (w'.heap[s_]? = some (.cells #[.int .i64 0, .int .u64 0] 24 (0, 0))) ∧ (w.heap.size ≤ s_) ∧ (gb926 ≠ s_) ∧ (s_ ≠ gb926) ∧ (Below w.heap.size w w')) ?_ ?_
     rotate_left
     · intro hJ1_2_8
       refine join_ (σ := Nat × Nat) 8 #[true, true, false, false, false, false, false, true, true, false, false, false] (fun s_ => [(12, .agg #[.int .i64 t927, .int .u64 t928]), (3, .pointer (some ⟨s_.1, 0, none⟩)), (4, .pointer (some ⟨s_.2, 0, none⟩))]) (fun s_ w' => (w'.cell? ⟨gb926, 0, none⟩ = some (.int .i64 a0_0) ∧ w'.cell? ⟨gb926, 1, none⟩ = some (.int .u64 a0_1)) ∧ (w'.heap[gb926]? = some (.cells #[.int .i64 a0_0, .int .u64 a0_1] 24 (0, 0))) ∧ (w'.heap[s_.1]? = some (.cells #[.int .i64 0, .int .u64 0] 24 (0, 0))) ∧ (w'.heap[s_.2]? = some (.cells #[.int .i64 0, .int .u64 0] 24 (0, 0))) ∧ (w.heap.size ≤ s_.1) ∧ (gb926 ≠ s_.1) ∧ (s_.1 ≠ gb926) ∧ (s_.2 ≠ s_.1) ∧ (s_.1 ≠ s_.2) ∧ (w.heap.size ≤ s_.2) ∧ (gb926 ≠ s_.2) ∧ (s_.2 ≠ gb926) ∧ (Below w.heap.size w w')) ?_ ?_
       rotate_left
       · intro hJ1_7_8
         refine join_ (σ := Unit) 5 #[true, true, true, true, true, true, true, false, false, false, false, false] (fun s_ => [(12, .agg #[.int .i64 t927, .int .u64 t928]), (13, .tuple #[.agg #[.int .i64 t929, .int .u64 t930], .agg #[.int .i64 t931, .int .u64 t932], .int .i64 t933]), (10, .tuple #[.agg #[.int .i64 t929, .int .u64 t930], .agg #[.int .i64 t931, .int .u64 t932], .int .i64 t933]), (14, .agg #[.int .i64 t929, .int .u64 t930]), (15, .agg #[.int .i64 t931, .int .u64 t932]), (16, .int .i64 t933)]) (fun s_ w' => (w'.cell? ⟨gb926, 0, none⟩ = some (.int .i64 a0_0) ∧ w'.cell? ⟨gb926, 1, none⟩ = some (.int .u64 a0_1)) ∧ (w'.heap[gb926]? = some (.cells #[.int .i64 a0_0, .int .u64 a0_1] 24 (0, 0))) ∧ (Below w.heap.size w w')) ?_ ?_
         rotate_left
         · intro hJ1_2
           refine join_ (σ := Nat) 9 #[true, true, false, false, false, false, false, true, false, false, false, false] (fun s_ => [(12, .agg #[.int .i64 t927, .int .u64 t928]), (3, .pointer (some ⟨s_, 0, none⟩))]) (fun s_ w' => (w'.cell? ⟨gb926, 0, none⟩ = some (.int .i64 a0_0) ∧ w'.cell? ⟨gb926, 1, none⟩ = some (.int .u64 a0_1)) ∧ (w'.heap[gb926]? = some (.cells #[.int .i64 a0_0, .int .u64 a0_1] 24 (0, 0))) ∧ (w'.heap[s_]? = some (.cells #[.int .i64 0, .int .u64 0] 24 (0, 0))) ∧ (w.heap.size ≤ s_) ∧ (gb926 ≠ s_) ∧ (s_ ≠ gb926) ∧ (Below w.heap.size w w')) ?_ ?_
           rotate_left
           · intro hJ1_7
             refine join_ (σ := Nat) 9 #[true, true, false, false, false, false, false, false, true, false, false, false] (fun s_ => [(12, .agg #[.int .i64 t927, .int .u64 t928]), (4, .pointer (some ⟨s_, 0, none⟩))]) (fun s_ w' => (w'.cell? ⟨gb926, 0, none⟩ = some (.int .i64 a0_0) ∧ w'.cell? ⟨gb926, 1, none⟩ = some (.int .u64 a0_1)) ∧ (w'.heap[gb926]? = some (.cells #[.int .i64 a0_0, .int .u64 a0_1] 24 (0, 0))) ∧ (w'.heap[s_]? = some (.cells #[.int .i64 0, .int .u64 0] 24 (0, 0))) ∧ (w.heap.size ≤ s_) ∧ (gb926 ≠ s_) ∧ (s_ ≠ gb926) ∧ (Below w.heap.size w w')) ?_ ?_
             rotate_left
             · intro hJ1_8
               refine join_ (σ := Nat × Nat) 9 #[true, false, false, false, false, false, false, true, true, false, false, false] (fun s_ => [(3, .pointer (some ⟨s_.1, 0, none⟩)), (4, .pointer (some ⟨s_.2, 0, none⟩))]) (fun s_ w' => (w'.cell? ⟨gb926, 0, none⟩ = some (.int .i64 a0_0) ∧ w'.cell? ⟨gb926, 1, none⟩ = some (.int .u64 a0_1)) ∧ (w'.heap[gb926]? = some (.cells #[.int .i64 a0_0, .int .u64 a0_1] 24 (0, 0))) ∧ (w'.heap[s_.1]? = some (.cells #[.int .i64 0, .int .u64 0] 24 (0, 0))) ∧ (w'.heap[s_.2]? = some (.cells #[.int .i64 0, .int .u64 0] 24 (0, 0))) ∧ (w.heap.size ≤ s_.1) ∧ (gb926 ≠ s_.1) ∧ (s_.1 ≠ gb926) ∧ (s_.2 ≠ s_.1) ∧ (s_.1 ≠ s_.2) ∧ (w.heap.size ≤ s_.2) ∧ (gb926 ≠ s_.2) ∧ (s_.2 ≠ gb926) ∧ (Below w.heap.size w w')) ?_ ?_
               rotate_left
               · intro hJ7_8
                 refine join_ (σ := Unit) 10 #[true, true, false, false, false, false, false, false, false, false, false, false] (fun s_ => [(12, .agg #[.int .i64 t927, .int .u64 t928])]) (fun s_ w' => (w'.cell? ⟨gb926, 0, none⟩ = some (.int .i64 a0_0) ∧ w'.cell? ⟨gb926, 1, none⟩ = some (.int .u64 a0_1)) ∧ (w'.heap[gb926]? = some (.cells #[.int .i64 a0_0, .int .u64 a0_1] 24 (0, 0))) ∧ (Below w.heap.size w w')) ?_ ?_
                 rotate_left
                 · intro hJ1
                   refine join_ (σ := Nat) 10 #[true, false, false, false, false, false, false, true, false, false, false, false] (fun s_ => [(3, .pointer (some ⟨s_, 0, none⟩))]) (fun s_ w' => (w'.cell? ⟨gb926, 0, none⟩ = some (.int .i64 a0_0) ∧ w'.cell? ⟨gb926, 1, none⟩ = some (.int .u64 a0_1)) ∧ (w'.heap[gb926]? = some (.cells #[.int .i64 a0_0, .int .u64 a0_1] 24 (0, 0))) ∧ (w'.heap[s_]? = some (.cells #[.int .i64 0, .int .u64 0] 24 (0, 0))) ∧ (w.heap.size ≤ s_) ∧ (gb926 ≠ s_) ∧ (s_ ≠ gb926) ∧ (Below w.heap.size w w')) ?_ ?_
                   rotate_left
                   · intro hJ7
                     refine join_ (σ := Nat) 10 #[true, false, false, false, false, false, false, false, true, false, false, false] (fun s_ => [(4, .pointer (some ⟨s_, 0, none⟩))]) (fun s_ w' => (w'.cell? ⟨gb926, 0, none⟩ = some (.int .i64 a0_0) ∧ w'.cell? ⟨gb926, 1, none⟩ = some (.int .u64 a0_1)) ∧ (w'.heap[gb926]? = some (.cells #[.int .i64 a0_0, .int .u64 a0_1] 24 (0, 0))) ∧ (w'.heap[s_]? = some (.cells #[.int .i64 0, .int .u64 0] 24 (0, 0))) ∧ (w.heap.size ≤ s_) ∧ (gb926 ≠ s_) ∧ (s_ ≠ gb926) ∧ (Below w.heap.size w w')) ?_ ?_
                     rotate_left
                     · intro hJ8
                       refine three_ (i := 1) (j := 7) (k := 8) (Ni := some 12) (Nj := some 3) (Nk := some 4) #[true, true, false, false, false, false, false, false, false, false, false, false] #[true, false, false, false, false, false, false, true, false, false, false, false] #[true, false, false, false, false, false, false, false, true, false, false, false] rfl rfl rfl rfl rfl rfl (three_of HT_.out (by kernel_rfl)) (by decide) (by decide) (by decide) (fun K hK => ?_) (fun K hK => ?_) (fun K hK => ?_)
                       · skip
                         refine goes_ Tryd.func47 (by kernel_rfl) rfl #[.int .i64 1000000] (by rfl) rfl rfl rf ?_
                         with_reducible refine (wide_Of.calls 1000000 t927 t928 _ A2.out).mono ?_
                         rintro e w9 ⟨rfl, hb⟩; refine ⟨_, rfl, ?_⟩; replace BK926 := am (bb BK926 hb); replace HB := am (below_step bz hb); (try clear hb); (try clear hb2); (try clear hk); (try clear hi)
                         refine hK.out _ _ ⟨bc BK926 0, bc BK926 1⟩ (fun hHeld => ?_)
                         clear hK K
                         refine norm_ (a' := ?_) ?_ ?_
                         rotate_left
                         · show Act.put _ (some 12) _ = _
                           simp only [Act.put, List.setIfInBounds_toArray, List.set_cons_zero, List.set_cons_succ, i64_w, i32_w]
                           rfl
                         exact nm (hJ1 () _ ⟨hHeld, (bq BK926), bz⟩)
                       · skip
                         refine box_step (by rfl) (N := 3) (by rfl) (cs := #[.int .i64 0, .int .u64 0]) (t := 24) (by go_simp <;> rfl) ?_
                         intro gb934 hg w9 hbox hb; have BK934 := am (hbox); have GW934 := gw w hg; replace HB := am (below_step bz hb); have NB926_934 := nl BK926 hg; have NB934_926 := nr BK926 hg; replace BK926 := am (bb BK926 hb); clear hb hbox hg
                         refine hK.out _ _ ⟨bc BK926 0, bc BK926 1⟩ (fun hHeld => ?_)
                         clear hK K
                         refine norm_ (a' := ?_) ?_ ?_
                         rotate_left
                         · show Act.put _ (some 3) _ = _
                           simp only [Act.put, List.setIfInBounds_toArray, List.set_cons_zero, List.set_cons_succ, i64_w, i32_w]
                           rfl
                         exact nm (hJ7 (gb934) _ ⟨hHeld, (bq BK926), (bq BK934), GW934.out, NB926_934.out, NB934_926.out, bz⟩)
                       · skip
                         refine box_step (by rfl) (N := 4) (by rfl) (cs := #[.int .i64 0, .int .u64 0]) (t := 24) (by go_simp <;> rfl) ?_
                         intro gb935 hg w9 hbox hb; have BK935 := am (hbox); have GW935 := gw w hg; replace HB := am (below_step bz hb); have NB926_935 := nl BK926 hg; have NB935_926 := nr BK926 hg; replace BK926 := am (bb BK926 hb); clear hb hbox hg
                         refine hK.out _ _ ⟨bc BK926 0, bc BK926 1⟩ (fun hHeld => ?_)
                         clear hK K
                         refine norm_ (a' := ?_) ?_ ?_
                         rotate_left
                         · show Act.put _ (some 4) _ = _
                           simp only [Act.put, List.setIfInBounds_toArray, List.set_cons_zero, List.set_cons_succ, i64_w, i32_w]
                           rfl
                         exact nm (hJ8 (gb935) _ ⟨hHeld, (bq BK926), (bq BK935), GW935.out, NB926_935.out, NB935_926.out, bz⟩)
                     · skip
                       rintro gb935 w10 h_; obtain ⟨hS_, h0_, h1_, h2_, h4_, h5_, h6_⟩ := h_; replace BK926 := am h0_; have BK935 := am h1_; have GW935 := am h2_; have NB926_935 := am h4_; have NB935_926 := am h5_; replace HB := am h6_; clear h0_ h1_ h2_ h4_ h5_ h6_; have hHeld : w10.cell? ⟨gb926, 0, none⟩ = some (.int .i64 a0_0) ∧ w10.cell? ⟨gb926, 1, none⟩ = some (.int .u64 a0_1) := hS_
                       refine norm_ (a' := ?_) ?_ ?_
                       rotate_left
                       · simp only [putAll, Act.put, List.setIfInBounds_toArray, List.set_cons_zero, List.set_cons_succ]
                         rfl
                       refine two_ (i := 1) (j := 7) (Ni := some 12) (Nj := some 3) #[true, true, false, false, false, false, false, false, true, false, false, false] #[true, false, false, false, false, false, false, true, true, false, false, false] rfl rfl rfl rfl (two_of HT_.out (by kernel_rfl)) (by decide) (by decide) (fun K hK => ?_) (fun K hK => ?_)
                       · skip
                         refine goes_ Tryd.func47 (by kernel_rfl) rfl #[.int .i64 1000000] (by rfl) rfl rfl rf ?_
                         with_reducible refine (wide_Of.calls 1000000 t927 t928 _ A2.out).mono ?_
                         rintro e w11 ⟨rfl, hb⟩; refine ⟨_, rfl, ?_⟩; replace BK926 := am (bb BK926 hb); replace BK935 := am (bb BK935 hb); replace HB := am (below_step bz hb); (try clear hb); (try clear hb2); (try clear hk); (try clear hi)
                         refine hK.out _ _ ⟨bc BK926 0, bc BK926 1⟩ (fun hHeld => ?_)
                         clear hK K
                         refine norm_ (a' := ?_) ?_ ?_
                         rotate_left
                         · show Act.put _ (some 12) _ = _
                           simp only [Act.put, List.setIfInBounds_toArray, List.set_cons_zero, List.set_cons_succ, i64_w, i32_w]
                           rfl
                         exact nm (hJ1_8 (gb935) _ ⟨hHeld, (bq BK926), (bq BK935), GW935.out, NB926_935.out, NB935_926.out, bz⟩)
                       · skip
                         refine box_step (by rfl) (N := 3) (by rfl) (cs := #[.int .i64 0, .int .u64 0]) (t := 24) (by go_simp <;> rfl) ?_
                         intro gb934 hg w11 hbox hb; have BK934 := am (hbox); have GW934 := gw w hg; replace HB := am (below_step bz hb); have NB926_934 := nl BK926 hg; have NB934_926 := nr BK926 hg; replace BK926 := am (bb BK926 hb); have NB935_934 := nl BK935 hg; have NB934_935 := nr BK935 hg; replace BK935 := am (bb BK935 hb); clear hb hbox hg
                         refine hK.out _ _ ⟨bc BK926 0, bc BK926 1⟩ (fun hHeld => ?_)
                         clear hK K
                         refine norm_ (a' := ?_) ?_ ?_
                         rotate_left
                         · show Act.put _ (some 3) _ = _
                           simp only [Act.put, List.setIfInBounds_toArray, List.set_cons_zero, List.set_cons_succ, i64_w, i32_w]
                           rfl
                         exact nm (hJ7_8 (gb934, gb935) _ ⟨hHeld, (bq BK926), (bq BK934), (bq BK935), GW934.out, NB926_934.out, NB934_926.out, NB935_934.out, NB934_935.out, GW935.out, NB926_935.out, NB935_926.out, bz⟩)
                   · skip
                     rintro gb934 w10 h_; obtain ⟨hS_, h0_, h1_, h2_, h4_, h5_, h6_⟩ := h_; replace BK926 := am h0_; have BK934 := am h1_; have GW934 := am h2_; have NB926_934 := am h4_; have NB934_926 := am h5_; replace HB := am h6_; clear h0_ h1_ h2_ h4_ h5_ h6_; have hHeld : w10.cell? ⟨gb926, 0, none⟩ = some (.int .i64 a0_0) ∧ w10.cell? ⟨gb926, 1, none⟩ = some (.int .u64 a0_1) := hS_
                     refine norm_ (a' := ?_) ?_ ?_
                     rotate_left
                     · simp only [putAll, Act.put, List.setIfInBounds_toArray, List.set_cons_zero, List.set_cons_succ]
                       rfl
                     refine two_ (i := 1) (j := 8) (Ni := some 12) (Nj := some 4) #[true, true, false, false, false, false, false, true, false, false, false, false] #[true, false, false, false, false, false, false, true, true, false, false, false] rfl rfl rfl rfl (two_of HT_.out (by kernel_rfl)) (by decide) (by decide) (fun K hK => ?_) (fun K hK => ?_)
                     · skip
                       refine goes_ Tryd.func47 (by kernel_rfl) rfl #[.int .i64 1000000] (by rfl) rfl rfl rf ?_
                       with_reducible refine (wide_Of.calls 1000000 t927 t928 _ A2.out).mono ?_
                       rintro e w11 ⟨rfl, hb⟩; refine ⟨_, rfl, ?_⟩; replace BK926 := am (bb BK926 hb); replace BK934 := am (bb BK934 hb); replace HB := am (below_step bz hb); (try clear hb); (try clear hb2); (try clear hk); (try clear hi)
                       refine hK.out _ _ ⟨bc BK926 0, bc BK926 1⟩ (fun hHeld => ?_)
                       clear hK K
                       refine norm_ (a' := ?_) ?_ ?_
                       rotate_left
                       · show Act.put _ (some 12) _ = _
                         simp only [Act.put, List.setIfInBounds_toArray, List.set_cons_zero, List.set_cons_succ, i64_w, i32_w]
                         rfl
                       exact nm (hJ1_7 (gb934) _ ⟨hHeld, (bq BK926), (bq BK934), GW934.out, NB926_934.out, NB934_926.out, bz⟩)
                     · skip
                       refine box_step (by rfl) (N := 4) (by rfl) (cs := #[.int .i64 0, .int .u64 0]) (t := 24) (by go_simp <;> rfl) ?_
                       intro gb935 hg w11 hbox hb; have BK935 := am (hbox); have GW935 := gw w hg; replace HB := am (below_step bz hb); have NB926_935 := nl BK926 hg; have NB935_926 := nr BK926 hg; replace BK926 := am (bb BK926 hb); have NB934_935 := nl BK934 hg; have NB935_934 := nr BK934 hg; replace BK934 := am (bb BK934 hb); clear hb hbox hg
                       refine hK.out _ _ ⟨bc BK926 0, bc BK926 1⟩ (fun hHeld => ?_)
                       clear hK K
                       refine norm_ (a' := ?_) ?_ ?_
                       rotate_left
                       · show Act.put _ (some 4) _ = _
                         simp only [Act.put, List.setIfInBounds_toArray, List.set_cons_zero, List.set_cons_succ, i64_w, i32_w]
                         rfl
                       exact nm (hJ7_8 (gb934, gb935) _ ⟨hHeld, (bq BK926), (bq BK934), (bq BK935), GW934.out, NB926_934.out, NB934_926.out, NB935_934.out, NB934_935.out, GW935.out, NB926_935.out, NB935_926.out, bz⟩)
                 · skip
                   rintro _ w10 h_; obtain ⟨hS_, h0_, h1_⟩ := h_; replace BK926 := am h0_; replace HB := am h1_; clear h0_ h1_; have hHeld : w10.cell? ⟨gb926, 0, none⟩ = some (.int .i64 a0_0) ∧ w10.cell? ⟨gb926, 1, none⟩ = some (.int .u64 a0_1) := hS_
                   refine norm_ (a' := ?_) ?_ ?_
                   rotate_left
                   · simp only [putAll, Act.put, List.setIfInBounds_toArray, List.set_cons_zero, List.set_cons_succ]
                     rfl
                   refine three_ (i := 2) (j := 7) (k := 8) (Ni := some 13) (Nj := some 3) (Nk := some 4) #[true, true, true, false, false, false, false, false, false, false, false, false] #[true, true, false, false, false, false, false, true, false, false, false, false] #[true, true, false, false, false, false, false, false, true, false, false, false] rfl rfl rfl rfl rfl rfl (three_of HT_.out (by kernel_rfl)) (by decide) (by decide) (by decide) (fun K hK => ?_) (fun K hK => ?_) (fun K hK => ?_)
                   · skip
                     refine goes_ Tryd.func32 (by kernel_rfl) rfl #[.agg #[.int .i64 a0_0, .int .u64 a0_1], .agg #[.int .i64 t927, .int .u64 t928]] (by rfl) rfl rfl rf ?_
                     with_reducible refine (wide_Quo.calls k a0_0 a0_1 t927 t928 t929 t930 t931 t932 t933 _ A3.out).mono ?_
                     rintro e w11 ⟨rfl, hb⟩; refine ⟨_, rfl, ?_⟩; replace BK926 := am (bb BK926 hb); replace HB := am (below_step bz hb); (try clear hb); (try clear hb2); (try clear hk); (try clear hi)
                     refine hK.out _ _ ⟨bc BK926 0, bc BK926 1⟩ (fun hHeld => ?_)
                     clear hK K
                     refine norm_ (a' := ?_) ?_ ?_
                     rotate_left
                     · show Act.put _ (some 13) _ = _
                       simp only [Act.put, List.setIfInBounds_toArray, List.set_cons_zero, List.set_cons_succ, i64_w, i32_w]
                       rfl
                     refine pure_ (i := 3) (N := some 10) (v := ?_) (a' := ?_) #[true, true, true, true, false, false, false, false, false, false, false, false] rfl rfl (any_of HT_.out (by kernel_rfl)) (fun _ _ _ h => h) (Or.inl ⟨by rfl, ?_⟩) ?_ ?_
                     rotate_left; · intro w'; go_simp; with_reducible rfl
                     rotate_left; · simp only [Act.put, List.setIfInBounds_toArray, List.set_cons_zero, List.set_cons_succ, i64_w, i32_w]; rfl
                     refine pure_ (i := 4) (N := some 14) (v := ?_) (a' := ?_) #[true, true, true, true, true, false, false, false, false, false, false, false] rfl rfl (any_of HT_.out (by kernel_rfl)) (fun _ _ _ h => h) (Or.inl ⟨by rfl, ?_⟩) ?_ ?_
                     rotate_left; · intro w'; go_simp; with_reducible rfl
                     rotate_left; · simp only [Act.put, List.setIfInBounds_toArray, List.set_cons_zero, List.set_cons_succ, i64_w, i32_w]; rfl
                     refine pure_ (i := 5) (N := some 15) (v := ?_) (a' := ?_) #[true, true, true, true, true, true, false, false, false, false, false, false] rfl rfl (any_of HT_.out (by kernel_rfl)) (fun _ _ _ h => h) (Or.inl ⟨by rfl, ?_⟩) ?_ ?_
                     rotate_left; · intro w'; go_simp; with_reducible rfl
                     rotate_left; · simp only [Act.put, List.setIfInBounds_toArray, List.set_cons_zero, List.set_cons_succ, i64_w, i32_w]; rfl
                     refine pure_ (i := 6) (N := some 16) (v := ?_) (a' := ?_) #[true, true, true, true, true, true, true, false, false, false, false, false] rfl rfl (any_of HT_.out (by kernel_rfl)) (fun _ _ _ h => h) (Or.inl ⟨by rfl, ?_⟩) ?_ ?_
                     rotate_left; · intro w'; go_simp; with_reducible rfl
                     rotate_left; · simp only [Act.put, List.setIfInBounds_toArray, List.set_cons_zero, List.set_cons_succ, i64_w, i32_w]; rfl
                     exact nm (hJ1_2 () _ ⟨hHeld, (bq BK926), bz⟩)
                   · skip
                     refine box_step (by rfl) (N := 3) (by rfl) (cs := #[.int .i64 0, .int .u64 0]) (t := 24) (by go_simp <;> rfl) ?_
                     intro gb934 hg w11 hbox hb; have BK934 := am (hbox); have GW934 := gw w hg; replace HB := am (below_step bz hb); have NB926_934 := nl BK926 hg; have NB934_926 := nr BK926 hg; replace BK926 := am (bb BK926 hb); clear hb hbox hg
                     refine hK.out _ _ ⟨bc BK926 0, bc BK926 1⟩ (fun hHeld => ?_)
                     clear hK K
                     refine norm_ (a' := ?_) ?_ ?_
                     rotate_left
                     · show Act.put _ (some 3) _ = _
                       simp only [Act.put, List.setIfInBounds_toArray, List.set_cons_zero, List.set_cons_succ, i64_w, i32_w]
                       rfl
                     exact nm (hJ1_7 (gb934) _ ⟨hHeld, (bq BK926), (bq BK934), GW934.out, NB926_934.out, NB934_926.out, bz⟩)
                   · skip
                     refine box_step (by rfl) (N := 4) (by rfl) (cs := #[.int .i64 0, .int .u64 0]) (t := 24) (by go_simp <;> rfl) ?_
                     intro gb935 hg w11 hbox hb; have BK935 := am (hbox); have GW935 := gw w hg; replace HB := am (below_step bz hb); have NB926_935 := nl BK926 hg; have NB935_926 := nr BK926 hg; replace BK926 := am (bb BK926 hb); clear hb hbox hg
                     refine hK.out _ _ ⟨bc BK926 0, bc BK926 1⟩ (fun hHeld => ?_)
                     clear hK K
                     refine norm_ (a' := ?_) ?_ ?_
                     rotate_left
                     · show Act.put _ (some 4) _ = _
                       simp only [Act.put, List.setIfInBounds_toArray, List.set_cons_zero, List.set_cons_succ, i64_w, i32_w]
                       rfl
                     exact nm (hJ1_8 (gb935) _ ⟨hHeld, (bq BK926), (bq BK935), GW935.out, NB926_935.out, NB935_926.out, bz⟩)
               · skip
                 rintro ⟨gb934, gb935⟩ w11 h_; dsimp only at h_; obtain ⟨hS_, h0_, h1_, h2_, h3_, h5_, h6_, h7_, h8_, h9_, h11_, h12_, h13_⟩ := h_; replace BK926 := am h0_; have BK934 := am h1_; have BK935 := am h2_; have GW934 := am h3_; have NB926_934 := am h5_; have NB934_926 := am h6_; have NB935_934 := am h7_; have NB934_935 := am h8_; have GW935 := am h9_; have NB926_935 := am h11_; have NB935_926 := am h12_; replace HB := am h13_; clear h0_ h1_ h2_ h3_ h5_ h6_ h7_ h8_ h9_ h11_ h12_ h13_; have hHeld : w11.cell? ⟨gb926, 0, none⟩ = some (.int .i64 a0_0) ∧ w11.cell? ⟨gb926, 1, none⟩ = some (.int .u64 a0_1) := hS_
                 refine norm_ (a' := ?_) ?_ ?_
                 rotate_left
                 · simp only [putAll, Act.put, List.setIfInBounds_toArray, List.set_cons_zero, List.set_cons_succ]
                   rfl
                 refine one_ (i := 1) (N := some 12) #[true, true, false, false, false, false, false, true, true, false, false, false] rfl rfl (one_of HT_.out (by kernel_rfl)) (by decide) (fun K hK => ?_)
                 refine goes_ Tryd.func47 (by kernel_rfl) rfl #[.int .i64 1000000] (by rfl) rfl rfl rf ?_
                 with_reducible refine (wide_Of.calls 1000000 t927 t928 _ A2.out).mono ?_
                 rintro e w12 ⟨rfl, hb⟩; refine ⟨_, rfl, ?_⟩; replace BK926 := am (bb BK926 hb); replace BK934 := am (bb BK934 hb); replace BK935 := am (bb BK935 hb); replace HB := am (below_step bz hb); (try clear hb); (try clear hb2); (try clear hk); (try clear hi)
                 refine hK.out _ _ ⟨bc BK926 0, bc BK926 1⟩ (fun hHeld => ?_)
                 clear hK K
                 refine norm_ (a' := ?_) ?_ ?_
                 rotate_left
                 · show Act.put _ (some 12) _ = _
                   simp only [Act.put, List.setIfInBounds_toArray, List.set_cons_zero, List.set_cons_succ, i64_w, i32_w]
                   rfl
                 exact nm (hJ1_7_8 (gb934, gb935) _ ⟨hHeld, (bq BK926), (bq BK934), (bq BK935), GW934.out, NB926_934.out, NB934_926.out, NB935_934.out, NB934_935.out, GW935.out, NB926_935.out, NB935_926.out, bz⟩)
             · skip
               rintro gb935 w11 h_; obtain ⟨hS_, h0_, h1_, h2_, h4_, h5_, h6_⟩ := h_; replace BK926 := am h0_; have BK935 := am h1_; have GW935 := am h2_; have NB926_935 := am h4_; have NB935_926 := am h5_; replace HB := am h6_; clear h0_ h1_ h2_ h4_ h5_ h6_; have hHeld : w11.cell? ⟨gb926, 0, none⟩ = some (.int .i64 a0_0) ∧ w11.cell? ⟨gb926, 1, none⟩ = some (.int .u64 a0_1) := hS_
               refine norm_ (a' := ?_) ?_ ?_
               rotate_left
               · simp only [putAll, Act.put, List.setIfInBounds_toArray, List.set_cons_zero, List.set_cons_succ]
                 rfl
               refine two_ (i := 2) (j := 7) (Ni := some 13) (Nj := some 3) #[true, true, true, false, false, false, false, false, true, false, false, false] #[true, true, false, false, false, false, false, true, true, false, false, false] rfl rfl rfl rfl (two_of HT_.out (by kernel_rfl)) (by decide) (by decide) (fun K hK => ?_) (fun K hK => ?_)
               · skip
                 refine goes_ Tryd.func32 (by kernel_rfl) rfl #[.agg #[.int .i64 a0_0, .int .u64 a0_1], .agg #[.int .i64 t927, .int .u64 t928]] (by rfl) rfl rfl rf ?_
                 with_reducible refine (wide_Quo.calls k a0_0 a0_1 t927 t928 t929 t930 t931 t932 t933 _ A3.out).mono ?_
                 rintro e w12 ⟨rfl, hb⟩; refine ⟨_, rfl, ?_⟩; replace BK926 := am (bb BK926 hb); replace BK935 := am (bb BK935 hb); replace HB := am (below_step bz hb); (try clear hb); (try clear hb2); (try clear hk); (try clear hi)
                 refine hK.out _ _ ⟨bc BK926 0, bc BK926 1⟩ (fun hHeld => ?_)
                 clear hK K
                 refine norm_ (a' := ?_) ?_ ?_
                 rotate_left
                 · show Act.put _ (some 13) _ = _
                   simp only [Act.put, List.setIfInBounds_toArray, List.set_cons_zero, List.set_cons_succ, i64_w, i32_w]
                   rfl
                 refine pure_ (i := 3) (N := some 10) (v := ?_) (a' := ?_) #[true, true, true, true, false, false, false, false, true, false, false, false] rfl rfl (any_of HT_.out (by kernel_rfl)) (fun _ _ _ h => h) (Or.inl ⟨by rfl, ?_⟩) ?_ ?_
                 rotate_left; · intro w'; go_simp; with_reducible rfl
                 rotate_left; · simp only [Act.put, List.setIfInBounds_toArray, List.set_cons_zero, List.set_cons_succ, i64_w, i32_w]; rfl
                 refine pure_ (i := 4) (N := some 14) (v := ?_) (a' := ?_) #[true, true, true, true, true, false, false, false, true, false, false, false] rfl rfl (any_of HT_.out (by kernel_rfl)) (fun _ _ _ h => h) (Or.inl ⟨by rfl, ?_⟩) ?_ ?_
                 rotate_left; · intro w'; go_simp; with_reducible rfl
                 rotate_left; · simp only [Act.put, List.setIfInBounds_toArray, List.set_cons_zero, List.set_cons_succ, i64_w, i32_w]; rfl
                 refine pure_ (i := 5) (N := some 15) (v := ?_) (a' := ?_) #[true, true, true, true, true, true, false, false, true, false, false, false] rfl rfl (any_of HT_.out (by kernel_rfl)) (fun _ _ _ h => h) (Or.inl ⟨by rfl, ?_⟩) ?_ ?_
                 rotate_left; · intro w'; go_simp; with_reducible rfl
                 rotate_left; · simp only [Act.put, List.setIfInBounds_toArray, List.set_cons_zero, List.set_cons_succ, i64_w, i32_w]; rfl
                 refine pure_ (i := 6) (N := some 16) (v := ?_) (a' := ?_) #[true, true, true, true, true, true, true, false, true, false, false, false] rfl rfl (any_of HT_.out (by kernel_rfl)) (fun _ _ _ h => h) (Or.inl ⟨by rfl, ?_⟩) ?_ ?_
                 rotate_left; · intro w'; go_simp; with_reducible rfl
                 rotate_left; · simp only [Act.put, List.setIfInBounds_toArray, List.set_cons_zero, List.set_cons_succ, i64_w, i32_w]; rfl
                 exact nm (hJ1_2_8 (gb935) _ ⟨hHeld, (bq BK926), (bq BK935), GW935.out, NB926_935.out, NB935_926.out, bz⟩)
               · skip
                 refine box_step (by rfl) (N := 3) (by rfl) (cs := #[.int .i64 0, .int .u64 0]) (t := 24) (by go_simp <;> rfl) ?_
                 intro gb934 hg w12 hbox hb; have BK934 := am (hbox); have GW934 := gw w hg; replace HB := am (below_step bz hb); have NB926_934 := nl BK926 hg; have NB934_926 := nr BK926 hg; replace BK926 := am (bb BK926 hb); have NB935_934 := nl BK935 hg; have NB934_935 := nr BK935 hg; replace BK935 := am (bb BK935 hb); clear hb hbox hg
                 refine hK.out _ _ ⟨bc BK926 0, bc BK926 1⟩ (fun hHeld => ?_)
                 clear hK K
                 refine norm_ (a' := ?_) ?_ ?_
                 rotate_left
                 · show Act.put _ (some 3) _ = _
                   simp only [Act.put, List.setIfInBounds_toArray, List.set_cons_zero, List.set_cons_succ, i64_w, i32_w]
                   rfl
                 exact nm (hJ1_7_8 (gb934, gb935) _ ⟨hHeld, (bq BK926), (bq BK934), (bq BK935), GW934.out, NB926_934.out, NB934_926.out, NB935_934.out, NB934_935.out, GW935.out, NB926_935.out, NB935_926.out, bz⟩)
           · skip
             rintro gb934 w11 h_; obtain ⟨hS_, h0_, h1_, h2_, h4_, h5_, h6_⟩ := h_; replace BK926 := am h0_; have BK934 := am h1_; have GW934 := am h2_; have NB926_934 := am h4_; have NB934_926 := am h5_; replace HB := am h6_; clear h0_ h1_ h2_ h4_ h5_ h6_; have hHeld : w11.cell? ⟨gb926, 0, none⟩ = some (.int .i64 a0_0) ∧ w11.cell? ⟨gb926, 1, none⟩ = some (.int .u64 a0_1) := hS_
             refine norm_ (a' := ?_) ?_ ?_
             rotate_left
             · simp only [putAll, Act.put, List.setIfInBounds_toArray, List.set_cons_zero, List.set_cons_succ]
               rfl
             refine two_ (i := 2) (j := 8) (Ni := some 13) (Nj := some 4) #[true, true, true, false, false, false, false, true, false, false, false, false] #[true, true, false, false, false, false, false, true, true, false, false, false] rfl rfl rfl rfl (two_of HT_.out (by kernel_rfl)) (by decide) (by decide) (fun K hK => ?_) (fun K hK => ?_)
             · skip
               refine goes_ Tryd.func32 (by kernel_rfl) rfl #[.agg #[.int .i64 a0_0, .int .u64 a0_1], .agg #[.int .i64 t927, .int .u64 t928]] (by rfl) rfl rfl rf ?_
               with_reducible refine (wide_Quo.calls k a0_0 a0_1 t927 t928 t929 t930 t931 t932 t933 _ A3.out).mono ?_
               rintro e w12 ⟨rfl, hb⟩; refine ⟨_, rfl, ?_⟩; replace BK926 := am (bb BK926 hb); replace BK934 := am (bb BK934 hb); replace HB := am (below_step bz hb); (try clear hb); (try clear hb2); (try clear hk); (try clear hi)
               refine hK.out _ _ ⟨bc BK926 0, bc BK926 1⟩ (fun hHeld => ?_)
               clear hK K
               refine norm_ (a' := ?_) ?_ ?_
               rotate_left
               · show Act.put _ (some 13) _ = _
                 simp only [Act.put, List.setIfInBounds_toArray, List.set_cons_zero, List.set_cons_succ, i64_w, i32_w]
                 rfl
               refine pure_ (i := 3) (N := some 10) (v := ?_) (a' := ?_) #[true, true, true, true, false, false, false, true, false, false, false, false] rfl rfl (any_of HT_.out (by kernel_rfl)) (fun _ _ _ h => h) (Or.inl ⟨by rfl, ?_⟩) ?_ ?_
               rotate_left; · intro w'; go_simp; with_reducible rfl
               rotate_left; · simp only [Act.put, List.setIfInBounds_toArray, List.set_cons_zero, List.set_cons_succ, i64_w, i32_w]; rfl
               refine pure_ (i := 4) (N := some 14) (v := ?_) (a' := ?_) #[true, true, true, true, true, false, false, true, false, false, false, false] rfl rfl (any_of HT_.out (by kernel_rfl)) (fun _ _ _ h => h) (Or.inl ⟨by rfl, ?_⟩) ?_ ?_
               rotate_left; · intro w'; go_simp; with_reducible rfl
               rotate_left; · simp only [Act.put, List.setIfInBounds_toArray, List.set_cons_zero, List.set_cons_succ, i64_w, i32_w]; rfl
               refine pure_ (i := 5) (N := some 15) (v := ?_) (a' := ?_) #[true, true, true, true, true, true, false, true, false, false, false, false] rfl rfl (any_of HT_.out (by kernel_rfl)) (fun _ _ _ h => h) (Or.inl ⟨by rfl, ?_⟩) ?_ ?_
               rotate_left; · intro w'; go_simp; with_reducible rfl
               rotate_left; · simp only [Act.put, List.setIfInBounds_toArray, List.set_cons_zero, List.set_cons_succ, i64_w, i32_w]; rfl
               refine pure_ (i := 6) (N := some 16) (v := ?_) (a' := ?_) #[true, true, true, true, true, true, true, true, false, false, false, false] rfl rfl (any_of HT_.out (by kernel_rfl)) (fun _ _ _ h => h) (Or.inl ⟨by rfl, ?_⟩) ?_ ?_
               rotate_left; · intro w'; go_simp; with_reducible rfl
               rotate_left; · simp only [Act.put, List.setIfInBounds_toArray, List.set_cons_zero, List.set_cons_succ, i64_w, i32_w]; rfl
               exact nm (hJ1_2_7 (gb934) _ ⟨hHeld, (bq BK926), (bq BK934), GW934.out, NB926_934.out, NB934_926.out, bz⟩)
             · skip
               refine box_step (by rfl) (N := 4) (by rfl) (cs := #[.int .i64 0, .int .u64 0]) (t := 24) (by go_simp <;> rfl) ?_
               intro gb935 hg w12 hbox hb; have BK935 := am (hbox); have GW935 := gw w hg; replace HB := am (below_step bz hb); have NB926_935 := nl BK926 hg; have NB935_926 := nr BK926 hg; replace BK926 := am (bb BK926 hb); have NB934_935 := nl BK934 hg; have NB935_934 := nr BK934 hg; replace BK934 := am (bb BK934 hb); clear hb hbox hg
               refine hK.out _ _ ⟨bc BK926 0, bc BK926 1⟩ (fun hHeld => ?_)
               clear hK K
               refine norm_ (a' := ?_) ?_ ?_
               rotate_left
               · show Act.put _ (some 4) _ = _
                 simp only [Act.put, List.setIfInBounds_toArray, List.set_cons_zero, List.set_cons_succ, i64_w, i32_w]
                 rfl
               exact nm (hJ1_7_8 (gb934, gb935) _ ⟨hHeld, (bq BK926), (bq BK934), (bq BK935), GW934.out, NB926_934.out, NB934_926.out, NB935_934.out, NB934_935.out, GW935.out, NB926_935.out, NB935_926.out, bz⟩)
         · skip
           rintro _ w11 h_; obtain ⟨hS_, h0_, h1_⟩ := h_; replace BK926 := am h0_; replace HB := am h1_; clear h0_ h1_; have hHeld : w11.cell? ⟨gb926, 0, none⟩ = some (.int .i64 a0_0) ∧ w11.cell? ⟨gb926, 1, none⟩ = some (.int .u64 a0_1) := hS_
           refine norm_ (a' := ?_) ?_ ?_
           rotate_left
           · simp only [putAll, Act.put, List.setIfInBounds_toArray, List.set_cons_zero, List.set_cons_succ]
             rfl
           refine two_ (i := 7) (j := 8) (Ni := some 3) (Nj := some 4) #[true, true, true, true, true, true, true, true, false, false, false, false] #[true, true, true, true, true, true, true, false, true, false, false, false] rfl rfl rfl rfl (two_of HT_.out (by kernel_rfl)) (by decide) (by decide) (fun K hK => ?_) (fun K hK => ?_)
           · skip
             refine box_step (by rfl) (N := 3) (by rfl) (cs := #[.int .i64 0, .int .u64 0]) (t := 24) (by go_simp <;> rfl) ?_
             intro gb934 hg w12 hbox hb; have BK934 := am (hbox); have GW934 := gw w hg; replace HB := am (below_step bz hb); have NB926_934 := nl BK926 hg; have NB934_926 := nr BK926 hg; replace BK926 := am (bb BK926 hb); clear hb hbox hg
             refine hK.out _ _ ⟨bc BK926 0, bc BK926 1⟩ (fun hHeld => ?_)
             clear hK K
             refine norm_ (a' := ?_) ?_ ?_
             rotate_left
             · show Act.put _ (some 3) _ = _
               simp only [Act.put, List.setIfInBounds_toArray, List.set_cons_zero, List.set_cons_succ, i64_w, i32_w]
               rfl
             exact nm (hJ1_2_7 (gb934) _ ⟨hHeld, (bq BK926), (bq BK934), GW934.out, NB926_934.out, NB934_926.out, bz⟩)
           · skip
             refine box_step (by rfl) (N := 4) (by rfl) (cs := #[.int .i64 0, .int .u64 0]) (t := 24) (by go_simp <;> rfl) ?_
             intro gb935 hg w12 hbox hb; have BK935 := am (hbox); have GW935 := gw w hg; replace HB := am (below_step bz hb); have NB926_935 := nl BK926 hg; have NB935_926 := nr BK926 hg; replace BK926 := am (bb BK926 hb); clear hb hbox hg
             refine hK.out _ _ ⟨bc BK926 0, bc BK926 1⟩ (fun hHeld => ?_)
             clear hK K
             refine norm_ (a' := ?_) ?_ ?_
             rotate_left
             · show Act.put _ (some 4) _ = _
               simp only [Act.put, List.setIfInBounds_toArray, List.set_cons_zero, List.set_cons_succ, i64_w, i32_w]
               rfl
             exact nm (hJ1_2_8 (gb935) _ ⟨hHeld, (bq BK926), (bq BK935), GW935.out, NB926_935.out, NB935_926.out, bz⟩)
       · skip
         rintro ⟨gb934, gb935⟩ w12 h_; dsimp only at h_; obtain ⟨hS_, h0_, h1_, h2_, h3_, h5_, h6_, h7_, h8_, h9_, h11_, h12_, h13_⟩ := h_; replace BK926 := am h0_; have BK934 := am h1_; have BK935 := am h2_; have GW934 := am h3_; have NB926_934 := am h5_; have NB934_926 := am h6_; have NB935_934 := am h7_; have NB934_935 := am h8_; have GW935 := am h9_; have NB926_935 := am h11_; have NB935_926 := am h12_; replace HB := am h13_; clear h0_ h1_ h2_ h3_ h5_ h6_ h7_ h8_ h9_ h11_ h12_ h13_; have hHeld : w12.cell? ⟨gb926, 0, none⟩ = some (.int .i64 a0_0) ∧ w12.cell? ⟨gb926, 1, none⟩ = some (.int .u64 a0_1) := hS_
         refine norm_ (a' := ?_) ?_ ?_
         rotate_left
         · simp only [putAll, Act.put, List.setIfInBounds_toArray, List.set_cons_zero, List.set_cons_succ]
           rfl
         refine one_ (i := 2) (N := some 13) #[true, true, true, false, false, false, false, true, true, false, false, false] rfl rfl (one_of HT_.out (by kernel_rfl)) (by decide) (fun K hK => ?_)
         refine goes_ Tryd.func32 (by kernel_rfl) rfl #[.agg #[.int .i64 a0_0, .int .u64 a0_1], .agg #[.int .i64 t927, .int .u64 t928]] (by rfl) rfl rfl rf ?_
         with_reducible refine (wide_Quo.calls k a0_0 a0_1 t927 t928 t929 t930 t931 t932 t933 _ A3.out).mono ?_
         rintro e w13 ⟨rfl, hb⟩; refine ⟨_, rfl, ?_⟩; replace BK926 := am (bb BK926 hb); replace BK934 := am (bb BK934 hb); replace BK935 := am (bb BK935 hb); replace HB := am (below_step bz hb); (try clear hb); (try clear hb2); (try clear hk); (try clear hi)
         refine hK.out _ _ ⟨bc BK926 0, bc BK926 1⟩ (fun hHeld => ?_)
         clear hK K
         refine norm_ (a' := ?_) ?_ ?_
         rotate_left
         · show Act.put _ (some 13) _ = _
           simp only [Act.put, List.setIfInBounds_toArray, List.set_cons_zero, List.set_cons_succ, i64_w, i32_w]
           rfl
         refine pure_ (i := 3) (N := some 10) (v := ?_) (a' := ?_) #[true, true, true, true, false, false, false, true, true, false, false, false] rfl rfl (any_of HT_.out (by kernel_rfl)) (fun _ _ _ h => h) (Or.inl ⟨by rfl, ?_⟩) ?_ ?_
         rotate_left; · intro w'; go_simp; with_reducible rfl
         rotate_left; · simp only [Act.put, List.setIfInBounds_toArray, List.set_cons_zero, List.set_cons_succ, i64_w, i32_w]; rfl
         refine pure_ (i := 4) (N := some 14) (v := ?_) (a' := ?_) #[true, true, true, true, true, false, false, true, true, false, false, false] rfl rfl (any_of HT_.out (by kernel_rfl)) (fun _ _ _ h => h) (Or.inl ⟨by rfl, ?_⟩) ?_ ?_
         rotate_left; · intro w'; go_simp; with_reducible rfl
         rotate_left; · simp only [Act.put, List.setIfInBounds_toArray, List.set_cons_zero, List.set_cons_succ, i64_w, i32_w]; rfl
         refine pure_ (i := 5) (N := some 15) (v := ?_) (a' := ?_) #[true, true, true, true, true, true, false, true, true, false, false, false] rfl rfl (any_of HT_.out (by kernel_rfl)) (fun _ _ _ h => h) (Or.inl ⟨by rfl, ?_⟩) ?_ ?_
         rotate_left; · intro w'; go_simp; with_reducible rfl
         rotate_left; · simp only [Act.put, List.setIfInBounds_toArray, List.set_cons_zero, List.set_cons_succ, i64_w, i32_w]; rfl
         refine pure_ (i := 6) (N := some 16) (v := ?_) (a' := ?_) #[true, true, true, true, true, true, true, true, true, false, false, false] rfl rfl (any_of HT_.out (by kernel_rfl)) (fun _ _ _ h => h) (Or.inl ⟨by rfl, ?_⟩) ?_ ?_
         rotate_left; · intro w'; go_simp; with_reducible rfl
         rotate_left; · simp only [Act.put, List.setIfInBounds_toArray, List.set_cons_zero, List.set_cons_succ, i64_w, i32_w]; rfl
         exact nm (hJ1_2_7_8 (gb934, gb935) _ ⟨hHeld, (bq BK926), (bq BK934), (bq BK935), GW934.out, NB926_934.out, NB934_926.out, NB935_934.out, NB934_935.out, GW935.out, NB926_935.out, NB935_926.out, bz⟩)
     · skip
       rintro gb935 w12 h_; obtain ⟨hS_, h0_, h1_, h2_, h4_, h5_, h6_⟩ := h_; replace BK926 := am h0_; have BK935 := am h1_; have GW935 := am h2_; have NB926_935 := am h4_; have NB935_926 := am h5_; replace HB := am h6_; clear h0_ h1_ h2_ h4_ h5_ h6_; have hHeld : w12.cell? ⟨gb926, 0, none⟩ = some (.int .i64 a0_0) ∧ w12.cell? ⟨gb926, 1, none⟩ = some (.int .u64 a0_1) := hS_
       refine norm_ (a' := ?_) ?_ ?_
       rotate_left
       · simp only [putAll, Act.put, List.setIfInBounds_toArray, List.set_cons_zero, List.set_cons_succ]
         rfl
       refine one_ (i := 7) (N := some 3) #[true, true, true, true, true, true, true, true, true, false, false, false] rfl rfl (one_of HT_.out (by kernel_rfl)) (by decide) (fun K hK => ?_)
       refine box_step (by rfl) (N := 3) (by rfl) (cs := #[.int .i64 0, .int .u64 0]) (t := 24) (by go_simp <;> rfl) ?_
       intro gb934 hg w13 hbox hb; have BK934 := am (hbox); have GW934 := gw w hg; replace HB := am (below_step bz hb); have NB926_934 := nl BK926 hg; have NB934_926 := nr BK926 hg; replace BK926 := am (bb BK926 hb); have NB935_934 := nl BK935 hg; have NB934_935 := nr BK935 hg; replace BK935 := am (bb BK935 hb); clear hb hbox hg
       refine hK.out _ _ ⟨bc BK926 0, bc BK926 1⟩ (fun hHeld => ?_)
       clear hK K
       refine norm_ (a' := ?_) ?_ ?_
       rotate_left
       · show Act.put _ (some 3) _ = _
         simp only [Act.put, List.setIfInBounds_toArray, List.set_cons_zero, List.set_cons_succ, i64_w, i32_w]
         rfl
       exact nm (hJ1_2_7_8 (gb934, gb935) _ ⟨hHeld, (bq BK926), (bq BK934), (bq BK935), GW934.out, NB926_934.out, NB934_926.out, NB935_934.out, NB934_935.out, GW935.out, NB926_935.out, NB935_926.out, bz⟩)
   · skip
     rintro gb934 w12 h_; obtain ⟨hS_, h0_, h1_, h2_, h4_, h5_, h6_⟩ := h_; replace BK926 := am h0_; have BK934 := am h1_; have GW934 := am h2_; have NB926_934 := am h4_; have NB934_926 := am h5_; replace HB := am h6_; clear h0_ h1_ h2_ h4_ h5_ h6_; have hHeld : w12.cell? ⟨gb926, 0, none⟩ = some (.int .i64 a0_0) ∧ w12.cell? ⟨gb926, 1, none⟩ = some (.int .u64 a0_1) := hS_
     refine norm_ (a' := ?_) ?_ ?_
     rotate_left
     · simp only [putAll, Act.put, List.setIfInBounds_toArray, List.set_cons_zero, List.set_cons_succ]
       rfl
     refine one_ (i := 8) (N := some 4) #[true, true, true, true, true, true, true, true, true, false, false, false] rfl rfl (one_of HT_.out (by kernel_rfl)) (by decide) (fun K hK => ?_)
     refine box_step (by rfl) (N := 4) (by rfl) (cs := #[.int .i64 0, .int .u64 0]) (t := 24) (by go_simp <;> rfl) ?_
     intro gb935 hg w13 hbox hb; have BK935 := am (hbox); have GW935 := gw w hg; replace HB := am (below_step bz hb); have NB926_935 := nl BK926 hg; have NB935_926 := nr BK926 hg; replace BK926 := am (bb BK926 hb); have NB934_935 := nl BK934 hg; have NB935_934 := nr BK934 hg; replace BK934 := am (bb BK934 hb); clear hb hbox hg
     refine hK.out _ _ ⟨bc BK926 0, bc BK926 1⟩ (fun hHeld => ?_)
     clear hK K
     refine norm_ (a' := ?_) ?_ ?_
     rotate_left
     · show Act.put _ (some 4) _ = _
       simp only [Act.put, List.setIfInBounds_toArray, List.set_cons_zero, List.set_cons_succ, i64_w, i32_w]
       rfl
     exact nm (hJ1_2_7_8 (gb934, gb935) _ ⟨hHeld, (bq BK926), (bq BK934), (bq BK935), GW934.out, NB926_934.out, NB934_926.out, NB935_934.out, NB934_935.out, GW935.out, NB926_935.out, NB935_926.out, bz⟩)
 rintro ⟨gb934, gb935⟩ w13 h_; dsimp only at h_; obtain ⟨hS_, h0_, h1_, h2_, h3_, h5_, h6_, h7_, h8_, h9_, h11_, h12_, h13_⟩ := h_; replace BK926 := am h0_; have BK934 := am h1_; have BK935 := am h2_; have GW934 := am h3_; have NB926_934 := am h5_; have NB934_926 := am h6_; have NB935_934 := am h7_; have NB934_935 := am h8_; have GW935 := am h9_; have NB926_935 := am h11_; have NB935_926 := am h12_; replace HB := am h13_; clear h0_ h1_ h2_ h3_ h5_ h6_ h7_ h8_ h9_ h11_ h12_ h13_; have hHeld : w13.cell? ⟨gb926, 0, none⟩ = some (.int .i64 a0_0) ∧ w13.cell? ⟨gb926, 1, none⟩ = some (.int .u64 a0_1) := hS_
 refine norm_ (a' := ?_) ?_ ?_
 rotate_left
 · simp only [putAll, Act.put, List.setIfInBounds_toArray, List.set_cons_zero, List.set_cons_succ]
   rfl
 refine one_ (i := 9) (N := none) #[true, true, true, true, true, true, true, true, true, true, false, false] rfl rfl (one_of HT_.out (by kernel_rfl)) (by decide) (fun K hK => ?_)
 have hs14 : w13.cell? ⟨gb934, 0, none⟩ = some (.int .i64 0) := bc BK934 0; have hfs14 := blk_frozen BK934.out 0; have hns14_0 := NB926_934.out; have hns14_2 := NB935_934.out; have hms14_0 := NB934_926.out; have hms14_2 := NB934_935.out; have hs15 : w13.cell? ⟨gb934, 1, none⟩ = some (.int .u64 0) := bc BK934 1; have hfs15 := blk_frozen BK934.out 1; have hns15_0 := NB926_934.out; have hns15_2 := NB935_934.out; have hms15_0 := NB934_926.out; have hms15_2 := NB934_935.out
 refine skip_ (w1 := ?_) (by rfl) rfl ?_ ?_
 rotate_left
 · go_simp
   rfl
 refine hK.out _ _ ⟨((cell_far (p := ⟨gb934, _, none⟩) NB926_934.out _).trans (((cell_far (p := ⟨gb934, _, none⟩) NB926_934.out _).trans (hHeld.1)))), ((cell_far (p := ⟨gb934, _, none⟩) NB926_934.out _).trans (((cell_far (p := ⟨gb934, _, none⟩) NB926_934.out _).trans (hHeld.2))))⟩ (fun hHeld => ?_)
 clear hK K
 refine one_ (i := 10) (N := none) #[true, true, true, true, true, true, true, true, true, true, true, false] rfl rfl (one_of HT_.out (by kernel_rfl)) (by decide) (fun K hK => ?_)
 have hs16 : w13.cell? ⟨gb935, 0, none⟩ = some (.int .i64 0) := bc BK935 0; have hfs16 := blk_frozen BK935.out 0; have hns16_0 := NB926_935.out; have hns16_1 := NB934_935.out; have hms16_0 := NB935_926.out; have hms16_1 := NB935_934.out; have hs17 : w13.cell? ⟨gb935, 1, none⟩ = some (.int .u64 0) := bc BK935 1; have hfs17 := blk_frozen BK935.out 1; have hns17_0 := NB926_935.out; have hns17_1 := NB934_935.out; have hms17_0 := NB935_926.out; have hms17_1 := NB935_934.out
 refine skip_ (w1 := ?_) (by rfl) rfl ?_ ?_
 rotate_left
 · go_simp
   rfl
 refine hK.out _ _ ⟨((cell_far (p := ⟨gb935, _, none⟩) NB926_935.out _).trans (((cell_far (p := ⟨gb935, _, none⟩) NB926_935.out _).trans (hHeld.1)))), ((cell_far (p := ⟨gb935, _, none⟩) NB926_935.out _).trans (((cell_far (p := ⟨gb935, _, none⟩) NB926_935.out _).trans (hHeld.2))))⟩ (fun hHeld => ?_)
 clear hK K
 refine pure_ (i := 11) (N := some 5) (v := ?_) (a' := ?_) #[true, true, true, true, true, true, true, true, true, true, true, true] rfl rfl (any_of HT_.out (by kernel_rfl)) (fun _ _ _ h => h) (Or.inl ⟨by rfl, ?_⟩) ?_ ?_
 rotate_left; · intro w'; go_simp; with_reducible rfl
 rotate_left; · simp only [Act.put, List.setIfInBounds_toArray, List.set_cons_zero, List.set_cons_succ, i64_w, i32_w]; rfl
 refine done_ (done_of HT_.out (by kernel_rfl)) ?_
 have hnb18 := NB934_926.out; have hnc18 := NB926_934.out; have hnb19 := NB934_935.out; have hnc19 := NB935_934.out; have hcz20_0 : w13.cell? ⟨gb934, 0, none⟩ = some (.int .i64 0) := bc BK934 0; have hcz20_1 : w13.cell? ⟨gb934, 1, none⟩ = some (.int .u64 0) := bc BK934 1; have hfz20_0 := blk_frozen BK934.out 0; have hfz20_1 := blk_frozen BK934.out 1
 go_upto_if 21 with (first | ((with_reducible refine gate_callee (f := 25) rfl ?_); refine goesL_ (some 18) rfl rfl Tryd.func25 (by kernel_rfl) rfl #[.agg #[.int .i64 t929, .int .u64 t930]] rfl rf ?_; (with_reducible refine (wide_Print.calls k t929 t930 t936 _ (tN hT) A4.out).mono ?_); rintro e w21 ⟨rfl, hb⟩; refine ⟨_, rfl, ?_⟩; replace BK926 := am (blk_below (g := gb926) (o := .cells #[.int .i64 a0_0, .int .u64 a0_1] 24 (0, 0)) kg hb); replace BK934 := am (blk_below (g := gb934) (o := .cells #[.int .i64 t929, .int .u64 t930] 24 (0, 0)) (blk_far (blk_far (blk_put (blk_put BK934.out 0 _ rfl) 1 _ rfl) NB934_935.out _) NB934_935.out _) hb); replace BK935 := am (blk_below (g := gb935) (o := .cells #[.int .i64 t931, .int .u64 t932] 24 (0, 0)) (blk_put (blk_put (blk_far (blk_far BK935.out NB935_934.out _) NB935_934.out _) 0 _ rfl) 1 _ rfl) hb); replace HB := am (below_step bz hb); (try clear hb); (try clear hb2); (try clear hk); (try clear hi); have hnb22 := NB926_935.out; have hnc22 := NB935_926.out; have hcz23_0 : w21.cell? ⟨gb926, 0, none⟩ = some (.int .i64 a0_0) := bc BK926 0; have hcz23_1 : w21.cell? ⟨gb926, 1, none⟩ = some (.int .u64 a0_1) := bc BK926 1; have hfz23_0 := blk_frozen BK926.out 0; have hfz23_1 := blk_frozen BK926.out 1) | ((with_reducible refine gate_callee (f := 50) rfl ?_); refine goesL_ (some 20) rfl rfl Tryd.func50 (by kernel_rfl) rfl #[.agg #[.int .i64 a0_0, .int .u64 a0_1]] rfl rf ?_; (with_reducible refine (wide_Sign.calls a0_0 a0_1 t937 _ A5.out).mono ?_); rintro e w24 ⟨rfl, hb⟩; refine ⟨_, rfl, ?_⟩; replace BK926 := am (bb BK926 hb); replace BK934 := am (bb BK934 hb); replace BK935 := am (bb BK935 hb); replace HB := am (below_step bz hb); (try clear hb); (try clear hb2); (try clear hk); (try clear hi)))
 (try simp only [Act.put, List.setIfInBounds_toArray, List.set_cons_zero, List.set_cons_succ])
 go_cut [6] (fun v6 wc => ∃ (kq : Nat) (x6_5 : ByteArray) (x936000_5 : Int) (x936001_5 : Int), v6 = .string x6_5 ∧ Aside0 (micro_Show.j0 kq x6_5 x936000_5 x936001_5 = some r) ∧ Aside0 (kq ≤ k) ∧ Aside0 (wc.heap[gb926]? = some (.cells #[.int .i64 a0_0, .int .u64 a0_1] 24 (0, 0))) ∧ Aside0 (wc.heap[gb934]? = some (.cells #[.int .i64 t929, .int .u64 t930] 24 (0, 0))) ∧ Aside0 (wc.heap[gb935]? = some (.cells #[.int .i64 x936000_5, .int .u64 x936001_5] 24 (0, 0))) ∧ Aside0 (Below w.heap.size w wc))
 case first =>
  have H := HC6.out; clear HC6
  by_cases c25 : t937 < 0
  · rw [if_pos c25] at H
    have c25b0 : decide (t937 < 0) = true := decide_eq_true c25; clear c25
    (first | rw [c25b0] | (simp only [i64_w, i32_w]; rw [c25b0]) | skip)
    replace H := Option.bind_eq_some_iff.mp H
    obtain ⟨t938, A260, H⟩ := H
    replace H : (if t938 = 0 then ((wide_Neg.f t931 t932).bind fun bt939 => (micro_Show.j0 k (⟨#[45, 48]⟩ : ByteArray) bt939.1 bt939.2.1)) else ((wide_Neg.f t931 t932).bind fun bt942 => (micro_Show.j0 k t936 bt942.1 bt942.2.1))) = some r := H
    have A26 := Aside0.mk A260; clear A260
    by_cases c27 : t938 = 0
    · rw [if_pos c27] at H
      have c27b0 : (t938 == 0) = true := beq_iff_eq.mpr c27; have c27b1 : (t938 != 0) = false := bne_eq_false_iff_eq.mpr c27; clear c27
      replace H := Option.bind_eq_some_iff.mp H
      obtain ⟨⟨t939, t940, t941⟩, A280, H⟩ := H
      replace H : (micro_Show.j0 k (⟨#[45, 48]⟩ : ByteArray) t939 t940) = some r := H
      have A28 := Aside0.mk A280; clear A280; have H' := Aside0.mk H; clear H; have hnb29 := NB934_926.out; have hnc29 := NB926_934.out; have hnb30 := NB934_935.out; have hnc30 := NB935_934.out; have hcz31_0 : w24.cell? ⟨gb934, 0, none⟩ = some (.int .i64 t929) := bc BK934 0; have hcz31_1 : w24.cell? ⟨gb934, 1, none⟩ = some (.int .u64 t930) := bc BK934 1; have hfz31_0 := blk_frozen BK934.out 0; have hfz31_1 := blk_frozen BK934.out 1
      go_wp2_with (first | ((with_reducible refine gate_callee (f := 50) rfl ?_); refine goesL_ (some 23) rfl rfl Tryd.func50 (by kernel_rfl) rfl #[.agg #[.int .i64 t929, .int .u64 t930]] rfl rf ?_; (with_reducible refine (wide_Sign.calls t929 t930 t938 _ A26.out).mono ?_); rintro e w32 ⟨rfl, hb⟩; refine ⟨_, rfl, ?_⟩; replace BK926 := am (bb BK926 hb); replace BK934 := am (bb BK934 hb); replace BK935 := am (bb BK935 hb); replace HB := am (below_step bz hb); (try clear hb); (try clear hb2); (try clear hk); (try clear hi); have hnb33 := NB935_926.out; have hnc33 := NB926_935.out; have hcz34_0 : w32.cell? ⟨gb935, 0, none⟩ = some (.int .i64 t931) := bc BK935 0; have hcz34_1 : w32.cell? ⟨gb935, 1, none⟩ = some (.int .u64 t932) := bc BK935 1; have hfz34_0 := blk_frozen BK935.out 0; have hfz34_1 := blk_frozen BK935.out 1) | ((with_reducible refine gate_callee (f := 43) rfl ?_); refine goesL_ (some 27) rfl rfl Tryd.func43 (by kernel_rfl) rfl #[.agg #[.int .i64 t931, .int .u64 t932]] rfl rf ?_; (with_reducible refine (wide_Neg.calls t931 t932 t939 t940 t941 _ A28.out).mono ?_); rintro e w35 ⟨rfl, hb⟩; refine ⟨_, rfl, ?_⟩; replace BK926 := am (bb BK926 hb); replace BK934 := am (bb BK934 hb); replace BK935 := am (bb BK935 hb); replace HB := am (below_step bz hb); (try clear hb); (try clear hb2); (try clear hk); (try clear hi); have hcz36_0 : w35.cell? ⟨gb935, 0, none⟩ = some (.int .i64 t931) := bc BK935 0; have hcz36_1 : w35.cell? ⟨gb935, 1, none⟩ = some (.int .u64 t932) := bc BK935 1; have hfz36_0 := blk_frozen BK935.out 0; have hfz36_1 := blk_frozen BK935.out 1))
      go_meet
      case rel => exact ⟨_, ((⟨#[45, 48]⟩ : ByteArray)), (t939), (t940), rs, H', ⟨by first | omega | exact Nat.le_refl _⟩, kf, kf, ⟨blk_put (blk_put BK935.out 0 _ rfl) 1 _ rfl⟩, ⟨bz⟩⟩
    · rw [if_neg c27] at H
      have c27b0 : (t938 == 0) = false := beq_eq_false_iff_ne.mpr c27; have c27b1 : (t938 != 0) = true := bne_iff_ne.mpr c27
      replace H := Option.bind_eq_some_iff.mp H
      obtain ⟨⟨t942, t943, t944⟩, A370, H⟩ := H
      replace H : (micro_Show.j0 k t936 t942 t943) = some r := H
      have A37 := Aside0.mk A370; clear A370; have H' := Aside0.mk H; clear H; have hnb38 := NB934_926.out; have hnc38 := NB926_934.out; have hnb39 := NB934_935.out; have hnc39 := NB935_934.out; have hcz40_0 : w24.cell? ⟨gb934, 0, none⟩ = some (.int .i64 t929) := bc BK934 0; have hcz40_1 : w24.cell? ⟨gb934, 1, none⟩ = some (.int .u64 t930) := bc BK934 1; have hfz40_0 := blk_frozen BK934.out 0; have hfz40_1 := blk_frozen BK934.out 1
      go_wp2_with (first | ((with_reducible refine gate_callee (f := 50) rfl ?_); refine goesL_ (some 23) rfl rfl Tryd.func50 (by kernel_rfl) rfl #[.agg #[.int .i64 t929, .int .u64 t930]] rfl rf ?_; (with_reducible refine (wide_Sign.calls t929 t930 t938 _ A26.out).mono ?_); rintro e w41 ⟨rfl, hb⟩; refine ⟨_, rfl, ?_⟩; replace BK926 := am (bb BK926 hb); replace BK934 := am (bb BK934 hb); replace BK935 := am (bb BK935 hb); replace HB := am (below_step bz hb); (try clear hb); (try clear hb2); (try clear hk); (try clear hi); have hnb42 := NB935_926.out; have hnc42 := NB926_935.out; have hcz43_0 : w41.cell? ⟨gb935, 0, none⟩ = some (.int .i64 t931) := bc BK935 0; have hcz43_1 : w41.cell? ⟨gb935, 1, none⟩ = some (.int .u64 t932) := bc BK935 1; have hfz43_0 := blk_frozen BK935.out 0; have hfz43_1 := blk_frozen BK935.out 1) | ((with_reducible refine gate_callee (f := 43) rfl ?_); refine goesL_ (some 27) rfl rfl Tryd.func43 (by kernel_rfl) rfl #[.agg #[.int .i64 t931, .int .u64 t932]] rfl rf ?_; (with_reducible refine (wide_Neg.calls t931 t932 t942 t943 t944 _ A37.out).mono ?_); rintro e w44 ⟨rfl, hb⟩; refine ⟨_, rfl, ?_⟩; replace BK926 := am (bb BK926 hb); replace BK934 := am (bb BK934 hb); replace BK935 := am (bb BK935 hb); replace HB := am (below_step bz hb); (try clear hb); (try clear hb2); (try clear hk); (try clear hi); have hcz45_0 : w44.cell? ⟨gb935, 0, none⟩ = some (.int .i64 t931) := bc BK935 0; have hcz45_1 : w44.cell? ⟨gb935, 1, none⟩ = some (.int .u64 t932) := bc BK935 1; have hfz45_0 := blk_frozen BK935.out 0; have hfz45_1 := blk_frozen BK935.out 1))
      go_meet
      case rel => exact ⟨_, (t936), (t942), (t943), rs, H', ⟨by first | omega | exact Nat.le_refl _⟩, kf, kf, ⟨blk_put (blk_put BK935.out 0 _ rfl) 1 _ rfl⟩, ⟨bz⟩⟩
  · rw [if_neg c25] at H
    have c25b0 : decide (t937 < 0) = false := decide_eq_false c25; clear c25
    (first | rw [c25b0] | (simp only [i64_w, i32_w]; rw [c25b0]) | skip)
    have H' := Aside0.mk H; clear H
    go_wp2
    go_meet
    case rel => exact ⟨_, (t936), (t931), (t932), rs, H', ⟨by first | omega | exact Nat.le_refl _⟩, kf, kf, kf, ⟨bz⟩⟩
 case rest =>
  clear HC6
  try clear c1
  try clear c2
  try clear p2
  try clear c3
  try clear c4
  try clear c5
  try clear c18
  try clear c19
  try clear c22
  try clear c25
  try clear c25b0
  try clear c27
  try clear c27b0
  try clear c27b1
  try clear c29
  try clear c30
  try clear c32
  try clear c33
  try clear c38
  try clear c39
  try clear c42
  try clear c43
  try clear hcz20_0
  try clear hcz20_1
  try clear hcz23_0
  try clear hcz23_1
  try clear hcz31_0
  try clear hcz31_1
  try clear hcz34_0
  try clear hcz34_1
  try clear hcz36_0
  try clear hcz36_1
  try clear hcz40_0
  try clear hcz40_1
  try clear hcz43_0
  try clear hcz43_1
  try clear hcz45_0
  try clear hcz45_1
  try clear hfz20_0
  try clear hfz20_1
  try clear hfz23_0
  try clear hfz23_1
  try clear hfz31_0
  try clear hfz31_1
  try clear hfz34_0
  try clear hfz34_1
  try clear hfz36_0
  try clear hfz36_1
  try clear hfz40_0
  try clear hfz40_1
  try clear hfz43_0
  try clear hfz43_1
  try clear hfz45_0
  try clear hfz45_1
  obtain ⟨kq, x6_5, x936000_5, x936001_5, rfl, HA, HJ5, BK926, BK934, BK935, HB⟩ := hcut
  cases kq with
  | zero => exact absurd HA.out (by simp [micro_Show.j0])
  | succ kj5 =>
   have H := HA.out; clear HA
   simp only [micro_Show.j0] at H
   replace H := Option.bind_eq_some_iff.mp H
   obtain ⟨⟨t945, t946⟩, A460, H⟩ := H
   replace H : (if t945 = 0 then (some x6_5) else ((strconv_FormatInt.f (wrap64 (1000000 + t945)) 10).bind fun t947 => (if 1 ≤ (t947.size : Int) then (micro_Show.l0 kj5 x6_5 (t947.extract 1 t947.size)) else (none)))) = some r := H
   have A46 := Aside0.mk A460; clear A460
   by_cases c47 : t945 = 0
   · rw [if_pos c47] at H
     have c47b0 : (t945 == 0) = true := beq_iff_eq.mpr c47; have c47b1 : (t945 != 0) = false := bne_eq_false_iff_eq.mpr c47; clear c47
     obtain rfl := Option.some.inj H
     have hnb48 := NB935_926.out; have hnc48 := NB926_935.out; have hnb49 := NB935_934.out; have hnc49 := NB934_935.out; have hcz50_0 : wc.cell? ⟨gb935, 0, none⟩ = some (.int .i64 x936000_5) := bc BK935 0; have hcz50_1 : wc.cell? ⟨gb935, 1, none⟩ = some (.int .u64 x936001_5) := bc BK935 1; have hfz50_0 := blk_frozen BK935.out 0; have hfz50_1 := blk_frozen BK935.out 1
     go_wp2_with (first | ((with_reducible refine gate_callee (f := 41) rfl ?_); refine goesL_ (some 32) rfl rfl Tryd.func41 (by kernel_rfl) rfl #[.agg #[.int .i64 x936000_5, .int .u64 x936001_5]] rfl rf ?_; (with_reducible refine (wide_Small.calls x936000_5 x936001_5 t945 t946 _ A46.out).mono ?_); rintro e w51 ⟨rfl, hb⟩; refine ⟨_, rfl, ?_⟩; replace BK926 := am (bb BK926 hb); replace BK934 := am (bb BK934 hb); replace BK935 := am (bb BK935 hb); replace HB := am (below_step bz hb); (try clear hb); (try clear hb2); (try clear hk); (try clear hi)))
     go_ret
     exact ⟨rg, bz⟩
   · rw [if_neg c47] at H
     have c47b0 : (t945 == 0) = false := beq_eq_false_iff_ne.mpr c47; have c47b1 : (t945 != 0) = true := bne_iff_ne.mpr c47
     replace H := Option.bind_eq_some_iff.mp H
     obtain ⟨t947, A520, H⟩ := H
     replace H : (if 1 ≤ (t947.size : Int) then (micro_Show.l0 kj5 x6_5 (t947.extract 1 t947.size)) else (none)) = some r := H
     have A52 := Aside0.mk A520; clear A520
     by_cases c53 : 1 ≤ (t947.size : Int)
     · rw [if_pos c53] at H
       have c53b0 := eq_true c53; have c53b1 : decide (1 ≤ (t947.size : Int)) = true := decide_eq_true c53; clear c53; have H' := Aside0.mk H; clear H; have hnb54 := NB935_926.out; have hnc54 := NB926_935.out; have hnb55 := NB935_934.out; have hnc55 := NB934_935.out; have hcz56_0 : wc.cell? ⟨gb935, 0, none⟩ = some (.int .i64 x936000_5) := bc BK935 0; have hcz56_1 : wc.cell? ⟨gb935, 1, none⟩ = some (.int .u64 x936001_5) := bc BK935 1; have hfz56_0 := blk_frozen BK935.out 0; have hfz56_1 := blk_frozen BK935.out 1
       go_wp2_with (first | ((with_reducible refine gate_callee (f := 41) rfl ?_); refine goesL_ (some 32) rfl rfl Tryd.func41 (by kernel_rfl) rfl #[.agg #[.int .i64 x936000_5, .int .u64 x936001_5]] rfl rf ?_; (with_reducible refine (wide_Small.calls x936000_5 x936001_5 t945 t946 _ A46.out).mono ?_); rintro e w57 ⟨rfl, hb⟩; refine ⟨_, rfl, ?_⟩; replace BK926 := am (bb BK926 hb); replace BK934 := am (bb BK934 hb); replace BK935 := am (bb BK935 hb); replace HB := am (below_step bz hb); (try clear hb); (try clear hb2); (try clear hk); (try clear hi)) | ((with_reducible refine gate_callee (f := 87) rfl ?_); refine goesL_ (some 40) rfl rfl Tryd.func87 (by kernel_rfl) rfl #[.int .i64 (wrap64 (1000000 + t945)), .int .i64 10] rfl rf ?_; (with_reducible refine (strconv_FormatInt.calls (wrap64 (1000000 + t945)) 10 t947 _ (tN hT) A52.out).mono ?_); rintro e w58 ⟨rfl, hb⟩; refine ⟨_, rfl, ?_⟩; replace BK926 := am (bb BK926 hb); replace BK934 := am (bb BK934 hb); replace BK935 := am (bb BK935 hb); replace HB := am (below_step bz hb); (try clear hb); (try clear hb2); (try clear hk); (try clear hi)))
       go_loopg [9] kj5 (fun kq v9 w' => ∃ (x9_2 : ByteArray), v9 = .string x9_2 ∧ Aside0 (micro_Show.l0 kq x6_5 x9_2 = some r) ∧ Aside0 (kq ≤ kj5) ∧ Aside0 (w'.heap[gb926]? = some (.cells #[.int .i64 a0_0, .int .u64 a0_1] 24 (0, 0))) ∧ Aside0 (w'.heap[gb934]? = some (.cells #[.int .i64 t929, .int .u64 t930] 24 (0, 0))) ∧ Aside0 (w'.heap[gb935]? = some (.cells #[.int .i64 x936000_5, .int .u64 x936001_5] 24 (0, 0))) ∧ Aside0 (Below w.heap.size w w'))
       case atStart => exact ⟨(t947.extract 1 t947.size), rs, H', ⟨Nat.le_refl _⟩, kf, kf, kf, ⟨bz⟩⟩
       case round =>
        clear H'
        try clear c1
        try clear c2
        try clear p2
        try clear c3
        try clear c4
        try clear c5
        try clear p6
        try clear c8
        try clear c18
        try clear c19
        try clear c22
        try clear c25
        try clear c25b0
        try clear c27
        try clear c27b0
        try clear c27b1
        try clear c29
        try clear c30
        try clear c32
        try clear c33
        try clear c38
        try clear c39
        try clear c41
        try clear c42
        try clear c43
        try clear c47
        try clear c47b0
        try clear c47b1
        try clear c48
        try clear c49
        try clear c50
        try clear c53
        try clear c53b0
        try clear c53b1
        try clear c54
        try clear c55
        try clear hcz20_0
        try clear hcz20_1
        try clear hcz23_0
        try clear hcz23_1
        try clear hcz31_0
        try clear hcz31_1
        try clear hcz34_0
        try clear hcz34_1
        try clear hcz36_0
        try clear hcz36_1
        try clear hcz40_0
        try clear hcz40_1
        try clear hcz43_0
        try clear hcz43_1
        try clear hcz45_0
        try clear hcz45_1
        try clear hcz50_0
        try clear hcz50_1
        try clear hcz56_0
        try clear hcz56_1
        try clear hfz20_0
        try clear hfz20_1
        try clear hfz23_0
        try clear hfz23_1
        try clear hfz31_0
        try clear hfz31_1
        try clear hfz34_0
        try clear hfz34_1
        try clear hfz36_0
        try clear hfz36_1
        try clear hfz40_0
        try clear hfz40_1
        try clear hfz43_0
        try clear hfz43_1
        try clear hfz45_0
        try clear hfz45_1
        try clear hfz50_0
        try clear hfz50_1
        try clear hfz56_0
        try clear hfz56_1
        try clear p2
        obtain ⟨x9_2, rfl, HA, HK2, BK926, BK934, BK935, HB⟩ := hrel
        cases gk with
        | zero => exact absurd HA.out (by simp [micro_Show.l0])
        | succ k2 =>
         have H := HA.out; clear HA
         simp only [micro_Show.l0] at H
         obtain ⟨ji59, hji59⟩ : ∃ j_ : Int, (wrap64 ((x9_2.size : Int) - 1)) = j_ := ⟨_, rfl⟩
         replace H : (if 0 ≤ (ji59) then (if (ji59) < (x9_2.size : Int) then (if (bt x9_2 (ji59)) = 48 then (if (ji59) ≤ (x9_2.size : Int) then (micro_Show.l0 k2 x6_5 (x9_2.extract 0 ((ji59) : Int).toNat)) else (none)) else (if x6_5.size + 1 ≤ 9223372036854775807 then (if (x6_5 ++ (⟨#[46]⟩ : ByteArray)).size + x9_2.size ≤ 9223372036854775807 then (some ((x6_5 ++ (⟨#[46]⟩ : ByteArray)) ++ x9_2)) else (none)) else (none))) else (none)) else (none)) = some r := by first | (rw [hji59] at H; exact H) | (simp only [hji59] at H ⊢; exact H)
         have hji59w : (IntKind.i64.wrap ((x9_2.size : Int) - 1)) = ji59 := (i64_w _).trans hji59
         by_cases c60 : 0 ≤ (ji59)
         · rw [if_pos c60] at H
           have c60b0 : decide (0 ≤ (ji59)) = true := decide_eq_true c60; clear c60
           by_cases c61 : (ji59) < (x9_2.size : Int)
           · rw [if_pos c61] at H
             have c61b0 : decide ((ji59) < (x9_2.size : Int)) = true := decide_eq_true c61; clear c61
             by_cases c63 : (bt x9_2 (ji59)) = 48
             · rw [if_pos c63] at H
               have c63b0 : ((bt x9_2 (ji59)) == 48) = true := beq_iff_eq.mpr c63; have c63b1 : ((bt x9_2 (ji59)) != 48) = false := bne_eq_false_iff_eq.mpr c63; clear c63; have c64b0 := eq_true (of_decide_eq_true (by first | (with_reducible assumption) | assumption) : 0 ≤ (ji59))
               by_cases c65 : (ji59) ≤ (x9_2.size : Int)
               · rw [if_pos c65] at H
                 have c65b0 := eq_true c65; have c65b1 : decide ((ji59) ≤ (x9_2.size : Int)) = true := decide_eq_true c65; clear c65; have H' := Aside0.mk H; clear H; have p62 : 0 ≤ ((ji59) : Int) := of_decide_eq_true (by first | (with_reducible assumption) | assumption); have q62 : (ji59) < (x9_2.size : Int) := of_decide_eq_true (by first | (with_reducible assumption) | assumption); have hx62 := bt_at x9_2 (ji59)
                 replace p62 := eq_true p62
                 replace q62 := eq_true q62
                 go_wp2
                 go_roundg k2
                 case measure => have := HJ5.out; have := HK2.out; omega
                 case rel => exact ⟨(x9_2.extract 0 ((ji59) : Int).toNat), (by first | rfl | (simp; done) | (simp only [← hji59] <;> (first | rfl | simp)) | (simp [*]; done)), H', ⟨by have := HJ5.out; have := HK2.out; omega⟩, kf, kf, kf, ⟨bz⟩⟩
               · rw [if_neg c65] at H
                 exact absurd H (by simp)
             · rw [if_neg c63] at H
               have c63b0 : ((bt x9_2 (ji59)) == 48) = false := beq_eq_false_iff_ne.mpr c63; have c63b1 : ((bt x9_2 (ji59)) != 48) = true := bne_iff_ne.mpr c63
               by_cases c66 : x6_5.size + 1 ≤ 9223372036854775807
               · rw [if_pos c66] at H
                 have c66b0 := eq_true c66; have c66b1 : decide (x6_5.size + 1 ≤ 9223372036854775807) = true := decide_eq_true c66
                 try have c66b2 : (9223372036854775807 < x6_5.size + 1) = False := eq_false (Nat.not_lt.2 c66)
                 by_cases c67 : (x6_5 ++ (⟨#[46]⟩ : ByteArray)).size + x9_2.size ≤ 9223372036854775807
                 · rw [if_pos c67] at H
                   have c67b0 := eq_true c67; have c67b1 : decide ((x6_5 ++ (⟨#[46]⟩ : ByteArray)).size + x9_2.size ≤ 9223372036854775807) = true := decide_eq_true c67
                   try have c67b2 : (9223372036854775807 < (x6_5 ++ (⟨#[46]⟩ : ByteArray)).size + x9_2.size) = False := eq_false (Nat.not_lt.2 c67)
                   try (have c67z1 := c67; simp only [ByteArray.size_append] at c67z1; have c67z2 := eq_false (Nat.not_lt.2 c67z1); have c67z3 := decide_eq_true c67z1)
                   try (have c67y1 := c67; simp [ByteArray.size_append, ByteArray.size_extract, show ∀ b_ : UInt8, ByteArray.size ⟨#[b_]⟩ = 1 from fun _ => rfl] at c67y1; have c67y2 := eq_false (Nat.not_lt.2 c67y1))
                   obtain rfl := Option.some.inj H
                   have p62 : 0 ≤ ((ji59) : Int) := of_decide_eq_true (by first | (with_reducible assumption) | assumption); have q62 : (ji59) < (x9_2.size : Int) := of_decide_eq_true (by first | (with_reducible assumption) | assumption); have hx62 := bt_at x9_2 (ji59)
                   replace p62 := eq_true p62
                   replace q62 := eq_true q62
                   go_wp2
                   go_ret
                   exact ⟨by first | rfl | (simp [errW_none, errW_some] <;> rfl) | (simp only [← hji59]; first | rfl | (simp [errW_none, errW_some] <;> rfl)) | (simp [*, errW_none, errW_some] <;> rfl), bz⟩
                 · rw [if_neg c67] at H
                   exact absurd H (by simp)
               · rw [if_neg c66] at H
                 exact absurd H (by simp)
           · rw [if_neg c61] at H
             exact absurd H (by simp)
         · rw [if_neg c60] at H
           exact absurd H (by simp)
     · rw [if_neg c53] at H
       exact absurd H (by simp)

end Go.Proofs.YtcfhmbhlibhlnaaDoor.P
