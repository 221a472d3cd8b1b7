/- The reference's numbers without bound: AddN, MulN, NegN, CmpN. -/
import Derived.Test.YtcfhmbhlibhlnaaDoorMRMul
import Derived.Test.YtcfhmbhlibhlnaaDoorPxf77
import Derived.Test.YtcfhmbhlibhlnaaDoorPxf74
import Derived.Test.YtcfhmbhlibhlnaaDoorPxf80
import Derived.Test.YtcfhmbhlibhlnaaDoorPxf82
namespace Go.Proofs.YtcfhmbhlibhlnaaDoor.MM
open Go.RowKit Go.Proofs.YtcfhmbhlibhlnaaDoor.P Go.Proofs.YtcfhmbhlibhlnaaDoorW.PrintWords Go.Proofs.YtcfhmbhlibhlnaaDoorW.PrintMore Go.Proofs.YtcfhmbhlibhlnaaDoor.Mine
set_option linter.unusedVariables false
set_option linter.unusedSimpArgs false

/-- A number that isn't too great. -/
def Bd (x : Int) : Prop := mag x < B 1000
theorem B16 : B 16 = 115792089237316195423570985008687907853269984665640564039457584007913129639936 := by decide +kernel
theorem B8 : B 8 = 340282366920938463463374607431768211456 := by decide +kernel
theorem B4 : B 4 = 18446744073709551616 := by decide +kernel
theorem Bd_of {x : Int} (h : mag x < 115792089237316195423570985008687907853269984665640564039457584007913129639936) : Bd x := by
  unfold Bd
  rw [← B16] at h
  exact Int.lt_of_lt_of_le h (B_le (by decide))
theorem Bd_len {x : Int} (h : Bd x) : (lim (mag x)).length ≤ 1000 := lim_len _ (mag_nonneg x) _ h
theorem mag_lim (x : Int) : nv (lim (mag x)) = mag x := nv_lim _ (mag_nonneg x)
theorem mag_Lm (x : Int) : Lm (lim (mag x)) := lim_Lm _ (mag_nonneg x)
theorem MakeN_is (b : Bool) (n : Int) (hn : 0 ≤ n) (hs : (lim n).length ≤ 1000000000) : Ev (fun k => tumblerref01_make2.f k b (lim n)) (num (if b = true then -n else n)) := by
  have := Make2_is b (lim_Lm n hn) hs
  rwa [nv_lim n hn] at this
theorem Ev_num {g : Nat → Option (Bool × List Int)} {x y : Int} (h : Ev g (num x)) (e : x = y) : Ev (fun k => (g k).bind fun b => some (b.1, b.2)) (num y) := by
  subst e
  obtain ⟨K, hK⟩ := h
  exact ⟨K, fun k hk => by show (g k).bind _ = _; rw [hK k hk]; rfl⟩
theorem num_neg (x : Int) : (num x).1 = decide (x < 0) := rfl
theorem num_lim (x : Int) : (num x).2 = lim (mag x) := rfl
theorem AddN_is (x y : Int) (hx : Bd x) (hy : Bd y) : Ev (fun k => tumblerref01_AddN.f k (num x).1 (num x).2 (num y).1 (num y).2) (num (x + y)) := by
  have lx := Bd_len hx
  have ly := Bd_len hy
  have nx := mag_nonneg x
  have ny := mag_nonneg y
  have tx := nv_lt (mag_Lm x)
  have ty := nv_lt (mag_Lm y)
  rw [mag_lim] at tx ty
  simp only [num_neg, num_lim, tumblerref01_AddN.f]
  have add := AddL_is (mag_Lm x) (mag_Lm y) (by omega) (by omega)
  have sub := SubL_is (a := lim (mag x)) (b := lim (mag y)) (mag_Lm x) (mag_Lm y) (by omega)
  have bus := SubL_is (a := lim (mag y)) (b := lim (mag x)) (mag_Lm y) (mag_Lm x) (by omega)
  have cm := CmpL_is (mag_Lm x) (mag_Lm y) (show Sh _ by unfold Sh; omega) (show Sh _ by unfold Sh; omega)
  rw [mag_lim, mag_lim] at add sub bus cm
  have bd : ∀ n, 0 ≤ n → n ≤ mag x + mag y → (lim n).length ≤ 1000000000 := fun n h0 h1 => by
    have := lim_len n h0 1001 (by
      unfold Bd at hx hy
      rw [B_succ]; have := B_pos 1000; omega)
    omega
  by_cases c : (decide (x < 0) == decide (y < 0)) = true
  · simp only [c, if_true]
    refine Ev.bind add (Ev_num (MakeN_is _ _ (by omega) (bd _ (by omega) (by omega))) ?_)
    have c' : (x < 0 ↔ y < 0) := by simpa using c
    unfold mag
    by_cases d : x < 0
    · simp only [d, c'.1 d, decide_true, if_true]; omega
    · have : ¬ y < 0 := fun h => d (c'.2 h)
      simp only [d, this, decide_false, Bool.false_eq_true, if_false]
  · simp only [c, Bool.false_eq_true, if_false]
    refine Ev.bind cm ?_
    have c' : ¬ (x < 0 ↔ y < 0) := by simpa using c
    by_cases g : mag y ≤ mag x
    · have e : cmp (mag x) (mag y) ≥ 0 := by unfold cmp; rw [if_neg (by omega)]; split <;> omega
      simp only [e, if_true]
      refine Ev.bind (sub g) (Ev_num (MakeN_is _ _ (by omega) (bd _ (by omega) (by omega))) ?_)
      unfold mag at *
      by_cases d : x < 0
      · have : ¬ y < 0 := fun h => c' ⟨fun _ => h, fun _ => d⟩
        simp only [d, this, decide_true, if_true, if_false]; omega
      · have : y < 0 := by by_cases h : y < 0; exact h; exact absurd ⟨fun z => absurd z d, fun z => absurd z h⟩ c'
        simp only [d, this, decide_false, Bool.false_eq_true, if_true, if_false]; omega
    · have e : ¬ cmp (mag x) (mag y) ≥ 0 := by unfold cmp; rw [if_pos (by omega)]; omega
      simp only [e, if_false]
      refine Ev.bind (bus (by omega)) (Ev_num (MakeN_is _ _ (by omega) (bd _ (by omega) (by omega))) ?_)
      unfold mag at *
      by_cases d : x < 0
      · have : ¬ y < 0 := fun h => c' ⟨fun _ => h, fun _ => d⟩
        simp only [d, this, decide_false, Bool.false_eq_true, if_true, if_false]; omega
      · have : y < 0 := by by_cases h : y < 0; exact h; exact absurd ⟨fun z => absurd z d, fun z => absurd z h⟩ c'
        simp only [d, this, decide_true, if_true, if_false]; omega
theorem MulN_is (x y : Int) (hx : Bd x) (hy : Bd y) : Ev (fun k => tumblerref01_MulN.f k (num x).1 (num x).2 (num y).1 (num y).2) (num (x * y)) := by
  have lx := Bd_len hx
  have ly := Bd_len hy
  have nx := mag_nonneg x
  have ny := mag_nonneg y
  simp only [num_neg, num_lim, tumblerref01_MulN.f]
  have mul := MulL_is (mag_Lm x) (mag_Lm y) (by omega) (by omega)
  rw [mag_lim, mag_lim] at mul
  have h0 : 0 ≤ mag x * mag y := Int.mul_nonneg nx ny
  have hb : mag x * mag y < B 2000 := by
    unfold Bd at hx hy
    rw [show 2000 = 1000 + 1000 from rfl, B_add]
    have h1 : mag x * mag y ≤ mag x * B 1000 := Int.mul_le_mul_of_nonneg_left (by omega) nx
    have h2 : mag x * B 1000 < B 1000 * B 1000 := Int.mul_lt_mul_of_pos_right hx (B_pos _)
    omega
  have hl := lim_len _ h0 _ hb
  refine Ev.bind mul (Ev_num (MakeN_is _ _ h0 (by omega)) ?_)
  exact sign_mul x y
theorem NegN_is (x : Int) (hx : Bd x) : Ev (fun k => tumblerref01_NegN.f k (num x).1 (num x).2) (num (-x)) := by
  have lx := Bd_len hx
  simp only [num_neg, num_lim, tumblerref01_NegN.f]
  refine Ev_num (MakeN_is _ _ (mag_nonneg x) (by omega)) ?_
  unfold mag
  by_cases d : x < 0 <;> simp [d]
theorem cmp_neg (x y : Int) : wrap64 (-cmp (-x) (-y)) = cmp x y := by
  unfold cmp
  rcases Int.lt_trichotomy x y with h | h | h
  · rw [if_neg (by omega), if_pos (by omega), if_pos h]; exact wrap_i (by decide)
  · rw [if_neg (by omega), if_neg (by omega), if_neg (by omega), if_neg (by omega)]; exact wrap_i (by decide)
  · rw [if_pos (by omega), if_neg (by omega), if_pos (by omega)]; exact wrap_i (by decide)
theorem CmpN_is (x y : Int) (hx : Bd x) (hy : Bd y) : Ev (fun k => tumblerref01_CmpN.f k (num x).1 (num x).2 (num y).1 (num y).2) (cmp x y) := by
  have lx := Bd_len hx
  have ly := Bd_len hy
  simp only [num_neg, num_lim, tumblerref01_CmpN.f]
  have cm := CmpL_is (mag_Lm x) (mag_Lm y) (show Sh _ by unfold Sh; omega) (show Sh _ by unfold Sh; omega)
  rw [mag_lim, mag_lim] at cm
  by_cases d : x < 0 <;> by_cases e : y < 0
  · simp only [d, e, decide_true, bne_self_eq_false, Bool.false_eq_true, if_false, if_true]
    refine Ev.bind cm ⟨0, fun k _ => ?_⟩
    show some (wrap64 (-cmp (mag x) (mag y))) = some (cmp x y)
    rw [mag_neg d, mag_neg e, cmp_neg]
  · simp only [d, e, decide_true, decide_false, Bool.true_bne, Bool.not_false, if_true]
    refine ⟨0, fun k _ => ?_⟩
    unfold cmp; rw [if_pos (by omega)]
  · simp only [d, e, decide_true, decide_false, Bool.false_bne, if_true, Bool.false_eq_true, if_false]
    refine ⟨0, fun k _ => ?_⟩
    unfold cmp; rw [if_neg (by omega), if_pos (by omega)]
  · simp only [d, e, decide_false, bne_self_eq_false, Bool.false_eq_true, if_false]
    refine Ev.bind cm ⟨0, fun k _ => ?_⟩
    rw [mag_pos (by omega), mag_pos (by omega)]
end Go.Proofs.YtcfhmbhlibhlnaaDoor.MM
