import Derived.Test.YtcfhmbhlibhlnaaDoorKNf
set_option linter.unusedVariables false
set_option linter.unusedSimpArgs false
namespace Go.Proofs.YtcfhmbhlibhlnaaDoor
open Go Go.Den Go.RowKit
variable {W0 : World}
theorem ref_make2n (b : Bool) (n : Int) (hn : 0 ≤ n) (hs : (lim n).length ≤ 1000000000) : PureF (C W0) I.tumblerref01_make2 [.bool b, Lv (lim n)] (numV (if b = true then -n else n)) := by
  have := ref_make2 (W0 := W0) b (lim n) (lim_Lm n hn) hs
  rwa [nv_lim n hn] at this
theorem ref_AddN (x y : Int) (hx : Bd x) (hy : Bd y) : PureF (C W0) I.tumblerref01_AddN [numV x, numV y] (numV (x + y)) := by
  have lx := Bd_len hx
  have ly := Bd_len hy
  have nx := mag_nonneg x
  have ny := mag_nonneg y
  have add := ref_addL (W0 := W0) _ _ (mag_Lm x) (mag_Lm y) (by omega) (by omega)
  have cm := ref_cmpL (W0 := W0) _ _ (mag_Lm x) (mag_Lm y) (by omega) (by omega)
  rw [mag_lim, mag_lim] at add cm
  have bd : ∀ n, 0 ≤ n → n ≤ mag x + mag y → (lim n).length ≤ 1000000000 := fun n h0 h1 => by
    have := lim_len n h0 1001 (by
      unfold Bd at hx hy
      rw [B_succ]; have := B_pos 1000; omega)
    omega
  refine PureF.E (CallP.of_body (C_ok W0) B.tumblerref01_AddN rfl rfl rfl ?_)
  by_cases c : (decide (x < 0) == decide (y < 0)) = true
  · have mk := ref_make2n (W0 := W0) (decide (x < 0)) (mag x + mag y) (by omega) (bd _ (by omega) (by omega))
    have e : (if decide (x < 0) = true then -(mag x + mag y) else mag x + mag y) = x + y := by
      have c' : (x < 0 ↔ y < 0) := by simpa using c
      unfold mag
      by_cases d : x < 0
      · simp only [d, c'.1 d, decide_true, if_true]; omega
      · have : ¬ y < 0 := fun h => d (c'.2 h)
        simp only [d, this, decide_false, Bool.false_eq_true, if_false]
    rw [e] at mk
    repeat' first
      | refine (add).call ?_
      | refine .inl ⟨_, add, ?_⟩
      | refine (mk).call ?_
      | refine .inl ⟨_, mk, ?_⟩
      | (apply Here.norm; (first | dsimp only [Env.putR, argEnv, pure1, newPtr, applyE, hset, List.length_cons, List.length_nil, List.length_append, List.set, List.cons_append, List.nil_append] | rfl); (first | dsimp only [Env.putR, argEnv, pure1, newPtr, applyE, hset, List.length_cons, List.length_nil, List.length_append, List.set, List.cons_append, List.nil_append] | rfl))
      | refine brP.t (by assumption) ?_
      | refine brP.f (by assumption) ?_
      | refine brP.tD (by assumption) ?_
      | refine brP.fD (by assumption) ?_
      | refine brP.tN (by assumption) ?_
      | refine brP.fN (by assumption) ?_
      | refine brP.introD (fun h => ?_) (fun h => ?_)
      | refine brP.introN (fun h => ?_) (fun h => ?_)
      | refine brP.intro (fun h => ?_) (fun h => ?_)
      | refine ⟨_, _, _, _, _, rfl, rfl, rfl, Fits.mk (by first | exact Nat.le_of_ble_eq_true rfl | (dsimp only; omega)), rfl, ?_⟩
      | refine ⟨_, _, _, _, _, rfl, _, rfl, ?_⟩
      | refine ⟨_, _, _, _, _, rfl, Fits.mk (by first | exact Nat.le_of_ble_eq_true rfl | (dsimp only; omega)), _, rfl, ?_⟩
      | refine ⟨Fits.mk (by first | exact Nat.le_of_ble_eq_true rfl | (dsimp only; omega)), _, rfl, ?_⟩
      | refine draw_go (C_ok W0) (by kernel_rfl) ?_
      | refine ⟨cpt_ok (by kernel_rfl), ?_⟩
      | refine ⟨InB.mk (by first | decide | omega) (by first | decide | omega), ?_⟩
      | refine ⟨SlB.mk (by first | omega | decide) (by first | omega | decide) (by first | omega | decide), ?_⟩
      | refine ⟨ShB.mk (by first | decide | omega), ?_⟩
      | refine ⟨NzB.mk (by first | decide | omega), ?_⟩
      | refine ⟨by decide, MkB.mk (by omega) (by omega) (by omega) (by omega), ?_⟩
      | refine ⟨trivial, ?_⟩
      | refine ⟨by decide, rfl, by decide, ?_⟩
      | refine .inr ⟨by decide, _, _, _, _, _, rfl, rfl, Fits.mk (by first | exact Nat.le_of_ble_eq_true rfl | omega), ?_⟩
      | refine .inr ⟨by decide, by decide, Room.mk (by decide) (by decide), ?_⟩
      | refine .inr ⟨by decide, _, _, _, _, _, rfl, rfl, Room.mk (by omega) (by omega), .inr (.inr ⟨(by omega), rfl, rfl, rfl, (by first | omega | (simp; done) | (simp; omega)), (by omega), rfl, ?_⟩)⟩
      | refine ⟨by decide, ?_⟩
      | refine ⟨subHi_le _ _ _, ?_⟩
      | refine ⟨_, rfl, ?_⟩
      | fail
    rfl
  · have c0 : (decide (x < 0) == decide (y < 0)) = false := by simpa using c
    have c' : ¬ (x < 0 ↔ y < 0) := by simpa using c
    by_cases g : mag y ≤ mag x
    · have hc : 0 ≤ cmp (mag x) (mag y) := by unfold cmp; split <;> (try split) <;> omega
      have sub := ref_subL (W0 := W0) (lim (mag x)) (lim (mag y)) (mag_Lm x) (mag_Lm y) (by omega) (by rw [mag_lim, mag_lim]; exact g)
      rw [mag_lim, mag_lim] at sub
      have mk := ref_make2n (W0 := W0) (decide (x < 0)) (mag x - mag y) (by omega) (bd _ (by omega) (by omega))
      have e : (if decide (x < 0) = true then -(mag x - mag y) else mag x - mag y) = x + y := by
        unfold mag at *
        by_cases d : x < 0
        · have : ¬ y < 0 := fun h => c' ⟨fun _ => h, fun _ => d⟩
          simp only [d, this, decide_true, if_true, if_false]; omega
        · have : y < 0 := by by_cases h : y < 0; exact h; exact absurd ⟨fun z => absurd z d, fun z => absurd z h⟩ c'
          simp only [d, this, decide_false, Bool.false_eq_true, if_true, if_false]; omega
      rw [e] at mk
      repeat' first
        | refine (cm).call ?_
        | refine .inl ⟨_, cm, ?_⟩
        | refine (sub).call ?_
        | refine .inl ⟨_, sub, ?_⟩
        | refine (mk).call ?_
        | refine .inl ⟨_, mk, ?_⟩
        | (apply Here.norm; (first | dsimp only [Env.putR, argEnv, pure1, newPtr, applyE, hset, List.length_cons, List.length_nil, List.length_append, List.set, List.cons_append, List.nil_append] | rfl); (first | dsimp only [Env.putR, argEnv, pure1, newPtr, applyE, hset, List.length_cons, List.length_nil, List.length_append, List.set, List.cons_append, List.nil_append] | rfl))
        | refine brP.t (by assumption) ?_
        | refine brP.f (by assumption) ?_
        | refine brP.tD (by assumption) ?_
        | refine brP.fD (by assumption) ?_
        | refine brP.tN (by assumption) ?_
        | refine brP.fN (by assumption) ?_
        | refine brP.introD (fun h => ?_) (fun h => ?_)
        | refine brP.introN (fun h => ?_) (fun h => ?_)
        | refine brP.intro (fun h => ?_) (fun h => ?_)
        | refine ⟨_, _, _, _, _, rfl, rfl, rfl, Fits.mk (by first | exact Nat.le_of_ble_eq_true rfl | (dsimp only; omega)), rfl, ?_⟩
        | refine ⟨_, _, _, _, _, rfl, _, rfl, ?_⟩
        | refine ⟨_, _, _, _, _, rfl, Fits.mk (by first | exact Nat.le_of_ble_eq_true rfl | (dsimp only; omega)), _, rfl, ?_⟩
        | refine ⟨Fits.mk (by first | exact Nat.le_of_ble_eq_true rfl | (dsimp only; omega)), _, rfl, ?_⟩
        | refine draw_go (C_ok W0) (by kernel_rfl) ?_
        | refine ⟨cpt_ok (by kernel_rfl), ?_⟩
        | refine ⟨InB.mk (by first | decide | omega) (by first | decide | omega), ?_⟩
        | refine ⟨SlB.mk (by first | omega | decide) (by first | omega | decide) (by first | omega | decide), ?_⟩
        | refine ⟨ShB.mk (by first | decide | omega), ?_⟩
        | refine ⟨NzB.mk (by first | decide | omega), ?_⟩
        | refine ⟨by decide, MkB.mk (by omega) (by omega) (by omega) (by omega), ?_⟩
        | refine ⟨trivial, ?_⟩
        | refine ⟨by decide, rfl, by decide, ?_⟩
        | refine .inr ⟨by decide, _, _, _, _, _, rfl, rfl, Fits.mk (by first | exact Nat.le_of_ble_eq_true rfl | omega), ?_⟩
        | refine .inr ⟨by decide, by decide, Room.mk (by decide) (by decide), ?_⟩
        | refine .inr ⟨by decide, _, _, _, _, _, rfl, rfl, Room.mk (by omega) (by omega), .inr (.inr ⟨(by omega), rfl, rfl, rfl, (by first | omega | (simp; done) | (simp; omega)), (by omega), rfl, ?_⟩)⟩
        | refine ⟨by decide, ?_⟩
        | refine ⟨subHi_le _ _ _, ?_⟩
        | refine ⟨_, rfl, ?_⟩
        | fail
      rfl
    · have hc : ¬ 0 ≤ cmp (mag x) (mag y) := by unfold cmp; split <;> (try split) <;> omega
      have sub := ref_subL (W0 := W0) (lim (mag y)) (lim (mag x)) (mag_Lm y) (mag_Lm x) (by omega) (by rw [mag_lim, mag_lim]; omega)
      rw [mag_lim, mag_lim] at sub
      have mk := ref_make2n (W0 := W0) (decide (y < 0)) (mag y - mag x) (by omega) (bd _ (by omega) (by omega))
      have e : (if decide (y < 0) = true then -(mag y - mag x) else mag y - mag x) = x + y := by
        unfold mag at *
        by_cases d : x < 0
        · have : ¬ y < 0 := fun h => c' ⟨fun _ => h, fun _ => d⟩
          simp only [d, this, decide_false, Bool.false_eq_true, if_true, if_false]; omega
        · have : y < 0 := by by_cases h : y < 0; exact h; exact absurd ⟨fun z => absurd z d, fun z => absurd z h⟩ c'
          simp only [d, this, decide_true, if_true, if_false]; omega
      rw [e] at mk
      repeat' first
        | refine (cm).call ?_
        | refine .inl ⟨_, cm, ?_⟩
        | refine (sub).call ?_
        | refine .inl ⟨_, sub, ?_⟩
        | refine (mk).call ?_
        | refine .inl ⟨_, mk, ?_⟩
        | (apply Here.norm; (first | dsimp only [Env.putR, argEnv, pure1, newPtr, applyE, hset, List.length_cons, List.length_nil, List.length_append, List.set, List.cons_append, List.nil_append] | rfl); (first | dsimp only [Env.putR, argEnv, pure1, newPtr, applyE, hset, List.length_cons, List.length_nil, List.length_append, List.set, List.cons_append, List.nil_append] | rfl))
        | refine brP.t (by assumption) ?_
        | refine brP.f (by assumption) ?_
        | refine brP.tD (by assumption) ?_
        | refine brP.fD (by assumption) ?_
        | refine brP.tN (by assumption) ?_
        | refine brP.fN (by assumption) ?_
        | refine brP.introD (fun h => ?_) (fun h => ?_)
        | refine brP.introN (fun h => ?_) (fun h => ?_)
        | refine brP.intro (fun h => ?_) (fun h => ?_)
        | refine ⟨_, _, _, _, _, rfl, rfl, rfl, Fits.mk (by first | exact Nat.le_of_ble_eq_true rfl | (dsimp only; omega)), rfl, ?_⟩
        | refine ⟨_, _, _, _, _, rfl, _, rfl, ?_⟩
        | refine ⟨_, _, _, _, _, rfl, Fits.mk (by first | exact Nat.le_of_ble_eq_true rfl | (dsimp only; omega)), _, rfl, ?_⟩
        | refine ⟨Fits.mk (by first | exact Nat.le_of_ble_eq_true rfl | (dsimp only; omega)), _, rfl, ?_⟩
        | refine draw_go (C_ok W0) (by kernel_rfl) ?_
        | refine ⟨cpt_ok (by kernel_rfl), ?_⟩
        | refine ⟨InB.mk (by first | decide | omega) (by first | decide | omega), ?_⟩
        | refine ⟨SlB.mk (by first | omega | decide) (by first | omega | decide) (by first | omega | decide), ?_⟩
        | refine ⟨ShB.mk (by first | decide | omega), ?_⟩
        | refine ⟨NzB.mk (by first | decide | omega), ?_⟩
        | refine ⟨by decide, MkB.mk (by omega) (by omega) (by omega) (by omega), ?_⟩
        | refine ⟨trivial, ?_⟩
        | refine ⟨by decide, rfl, by decide, ?_⟩
        | refine .inr ⟨by decide, _, _, _, _, _, rfl, rfl, Fits.mk (by first | exact Nat.le_of_ble_eq_true rfl | omega), ?_⟩
        | refine .inr ⟨by decide, by decide, Room.mk (by decide) (by decide), ?_⟩
        | refine .inr ⟨by decide, _, _, _, _, _, rfl, rfl, Room.mk (by omega) (by omega), .inr (.inr ⟨(by omega), rfl, rfl, rfl, (by first | omega | (simp; done) | (simp; omega)), (by omega), rfl, ?_⟩)⟩
        | refine ⟨by decide, ?_⟩
        | refine ⟨subHi_le _ _ _, ?_⟩
        | refine ⟨_, rfl, ?_⟩
        | fail
      rfl
theorem ref_NegN (x : Int) (hx : Bd x) : PureF (C W0) I.tumblerref01_NegN [numV x] (numV (-x)) := by
  have lx := Bd_len hx
  have mk := ref_make2n (W0 := W0) (!decide (x < 0)) (mag x) (mag_nonneg x) (by omega)
  have e : (if (!decide (x < 0)) = true then -mag x else mag x) = -x := by
    unfold mag
    by_cases d : x < 0
    · simp [d]
    · simp [d]
  rw [e] at mk
  refine PureF.E (CallP.of_body (C_ok W0) B.tumblerref01_NegN rfl rfl rfl ?_)
  repeat' first
    | refine (mk).call ?_
    | refine .inl ⟨_, mk, ?_⟩
    | (apply Here.norm; (first | dsimp only [Env.putR, argEnv, pure1, newPtr, applyE, hset, List.length_cons, List.length_nil, List.length_append, List.set, List.cons_append, List.nil_append] | rfl); (first | dsimp only [Env.putR, argEnv, pure1, newPtr, applyE, hset, List.length_cons, List.length_nil, List.length_append, List.set, List.cons_append, List.nil_append] | rfl))
    | refine brP.t (by assumption) ?_
    | refine brP.f (by assumption) ?_
    | refine brP.tD (by assumption) ?_
    | refine brP.fD (by assumption) ?_
    | refine brP.tN (by assumption) ?_
    | refine brP.fN (by assumption) ?_
    | refine brP.introD (fun h => ?_) (fun h => ?_)
    | refine brP.introN (fun h => ?_) (fun h => ?_)
    | refine brP.intro (fun h => ?_) (fun h => ?_)
    | refine ⟨_, _, _, _, _, rfl, rfl, rfl, Fits.mk (by first | exact Nat.le_of_ble_eq_true rfl | (dsimp only; omega)), rfl, ?_⟩
    | refine ⟨_, _, _, _, _, rfl, _, rfl, ?_⟩
    | refine ⟨_, _, _, _, _, rfl, Fits.mk (by first | exact Nat.le_of_ble_eq_true rfl | (dsimp only; omega)), _, rfl, ?_⟩
    | refine ⟨Fits.mk (by first | exact Nat.le_of_ble_eq_true rfl | (dsimp only; omega)), _, rfl, ?_⟩
    | refine draw_go (C_ok W0) (by kernel_rfl) ?_
    | refine ⟨cpt_ok (by kernel_rfl), ?_⟩
    | refine ⟨InB.mk (by first | decide | omega) (by first | decide | omega), ?_⟩
    | refine ⟨SlB.mk (by first | omega | decide) (by first | omega | decide) (by first | omega | decide), ?_⟩
    | refine ⟨ShB.mk (by first | decide | omega), ?_⟩
    | refine ⟨NzB.mk (by first | decide | omega), ?_⟩
    | refine ⟨by decide, MkB.mk (by omega) (by omega) (by omega) (by omega), ?_⟩
    | refine ⟨trivial, ?_⟩
    | refine ⟨by decide, rfl, by decide, ?_⟩
    | refine .inr ⟨by decide, _, _, _, _, _, rfl, rfl, Fits.mk (by first | exact Nat.le_of_ble_eq_true rfl | omega), ?_⟩
    | refine .inr ⟨by decide, by decide, Room.mk (by decide) (by decide), ?_⟩
    | refine .inr ⟨by decide, _, _, _, _, _, rfl, rfl, Room.mk (by omega) (by omega), .inr (.inr ⟨(by omega), rfl, rfl, rfl, (by first | omega | (simp; done) | (simp; omega)), (by omega), rfl, ?_⟩)⟩
    | refine ⟨by decide, ?_⟩
    | refine ⟨subHi_le _ _ _, ?_⟩
    | refine ⟨_, rfl, ?_⟩
    | fail
  rfl
theorem ref_MulN (x y : Int) (hx : Bd x) (hy : Bd y) : PureF (C W0) I.tumblerref01_MulN [numV x, numV y] (numV (x * y)) := by
  have lx := Bd_len hx
  have ly := Bd_len hy
  have nx := mag_nonneg x
  have ny := mag_nonneg y
  have mul := ref_mulL (W0 := W0) _ _ (mag_Lm x) (mag_Lm y) (by omega) (by omega)
  rw [mag_lim, mag_lim] at mul
  have h0 : 0 ≤ mag x * mag y := Int.mul_nonneg nx ny
  have hb : mag x * mag y < B 2000 := by
    unfold Bd at hx hy
    rw [show 2000 = 1000 + 1000 from rfl, B_add]
    have h1 : mag x * mag y ≤ mag x * B 1000 := Int.mul_le_mul_of_nonneg_left (by omega) nx
    have h2 : mag x * B 1000 < B 1000 * B 1000 := Int.mul_lt_mul_of_pos_right hx (B_pos _)
    omega
  have hl := lim_len _ h0 _ hb
  have mk := ref_make2n (W0 := W0) (decide (x < 0) != decide (y < 0)) (mag x * mag y) h0 (by omega)
  rw [sign_mul x y] at mk
  refine PureF.E (CallP.of_body (C_ok W0) B.tumblerref01_MulN rfl rfl rfl ?_)
  repeat' first
    | refine (mul).call ?_
    | refine .inl ⟨_, mul, ?_⟩
    | refine (mk).call ?_
    | refine .inl ⟨_, mk, ?_⟩
    | (apply Here.norm; (first | dsimp only [Env.putR, argEnv, pure1, newPtr, applyE, hset, List.length_cons, List.length_nil, List.length_append, List.set, List.cons_append, List.nil_append] | rfl); (first | dsimp only [Env.putR, argEnv, pure1, newPtr, applyE, hset, List.length_cons, List.length_nil, List.length_append, List.set, List.cons_append, List.nil_append] | rfl))
    | refine brP.t (by assumption) ?_
    | refine brP.f (by assumption) ?_
    | refine brP.tD (by assumption) ?_
    | refine brP.fD (by assumption) ?_
    | refine brP.tN (by assumption) ?_
    | refine brP.fN (by assumption) ?_
    | refine brP.introD (fun h => ?_) (fun h => ?_)
    | refine brP.introN (fun h => ?_) (fun h => ?_)
    | refine brP.intro (fun h => ?_) (fun h => ?_)
    | refine ⟨_, _, _, _, _, rfl, rfl, rfl, Fits.mk (by first | exact Nat.le_of_ble_eq_true rfl | (dsimp only; omega)), rfl, ?_⟩
    | refine ⟨_, _, _, _, _, rfl, _, rfl, ?_⟩
    | refine ⟨_, _, _, _, _, rfl, Fits.mk (by first | exact Nat.le_of_ble_eq_true rfl | (dsimp only; omega)), _, rfl, ?_⟩
    | refine ⟨Fits.mk (by first | exact Nat.le_of_ble_eq_true rfl | (dsimp only; omega)), _, rfl, ?_⟩
    | refine draw_go (C_ok W0) (by kernel_rfl) ?_
    | refine ⟨cpt_ok (by kernel_rfl), ?_⟩
    | refine ⟨InB.mk (by first | decide | omega) (by first | decide | omega), ?_⟩
    | refine ⟨SlB.mk (by first | omega | decide) (by first | omega | decide) (by first | omega | decide), ?_⟩
    | refine ⟨ShB.mk (by first | decide | omega), ?_⟩
    | refine ⟨NzB.mk (by first | decide | omega), ?_⟩
    | refine ⟨by decide, MkB.mk (by omega) (by omega) (by omega) (by omega), ?_⟩
    | refine ⟨trivial, ?_⟩
    | refine ⟨by decide, rfl, by decide, ?_⟩
    | refine .inr ⟨by decide, _, _, _, _, _, rfl, rfl, Fits.mk (by first | exact Nat.le_of_ble_eq_true rfl | omega), ?_⟩
    | refine .inr ⟨by decide, by decide, Room.mk (by decide) (by decide), ?_⟩
    | refine .inr ⟨by decide, _, _, _, _, _, rfl, rfl, Room.mk (by omega) (by omega), .inr (.inr ⟨(by omega), rfl, rfl, rfl, (by first | omega | (simp; done) | (simp; omega)), (by omega), rfl, ?_⟩)⟩
    | refine ⟨by decide, ?_⟩
    | refine ⟨subHi_le _ _ _, ?_⟩
    | refine ⟨_, rfl, ?_⟩
    | fail
  rfl
theorem ref_QuoN (x y : Int) (hx : Bd x) (hy : Bd y) (h0 : y ≠ 0) : PureF (C W0) I.tumblerref01_QuoN [numV x, numV y] (.tuple #[numV (Int.tdiv x y), numV (Int.tmod x y)]) := by
  have lx := Bd_len hx
  have ly := Bd_len hy
  have nx := mag_nonneg x
  have ny : 0 < mag y := by unfold mag; split <;> omega
  obtain ⟨e1, e2⟩ := tdiv_mag x y h0
  have q0 : 0 ≤ mag x / mag y := Int.ediv_nonneg nx (by omega)
  have q1 : mag x / mag y ≤ mag x := Int.ediv_le_self _ nx
  have r0 := Int.emod_nonneg (mag x) (show mag y ≠ 0 by omega)
  have r1 := Int.emod_lt_of_pos (mag x) ny
  have lq := lim_len (mag x / mag y) q0 1000 (by unfold Bd at hx; omega)
  have lr := lim_len (mag x % mag y) r0 1000 (by unfold Bd at hy; omega)
  have m1 := ref_make2n (W0 := W0) (decide (x < 0) != decide (y < 0)) (mag x / mag y) q0 (by omega)
  have m2 := ref_make2n (W0 := W0) (decide (x < 0)) (mag x % mag y) r0 (by omega)
  rw [← e1] at m1
  rw [← e2] at m2
  have dv := ref_divL (W0 := W0) (mag x) (mag y) nx ny (by omega) (by omega)
  refine PureF.E (CallP.of_body (C_ok W0) B.tumblerref01_QuoN rfl rfl rfl ?_)
  repeat' first
    | refine (dv).call ?_
    | refine .inl ⟨_, dv, ?_⟩
    | refine (m1).call ?_
    | refine .inl ⟨_, m1, ?_⟩
    | refine (m2).call ?_
    | refine .inl ⟨_, m2, ?_⟩
    | (apply Here.norm; (first | dsimp only [Env.putR, argEnv, pure1, newPtr, applyE, hset, List.length_cons, List.length_nil, List.length_append, List.set, List.cons_append, List.nil_append] | rfl); (first | dsimp only [Env.putR, argEnv, pure1, newPtr, applyE, hset, List.length_cons, List.length_nil, List.length_append, List.set, List.cons_append, List.nil_append] | rfl))
    | refine brP.t (by assumption) ?_
    | refine brP.f (by assumption) ?_
    | refine brP.tD (by assumption) ?_
    | refine brP.fD (by assumption) ?_
    | refine brP.tN (by assumption) ?_
    | refine brP.fN (by assumption) ?_
    | refine brP.introD (fun h => ?_) (fun h => ?_)
    | refine brP.introN (fun h => ?_) (fun h => ?_)
    | refine brP.intro (fun h => ?_) (fun h => ?_)
    | refine ⟨_, _, _, _, _, rfl, rfl, rfl, Fits.mk (by first | exact Nat.le_of_ble_eq_true rfl | (dsimp only; omega)), rfl, ?_⟩
    | refine ⟨_, _, _, _, _, rfl, _, rfl, ?_⟩
    | refine ⟨_, _, _, _, _, rfl, Fits.mk (by first | exact Nat.le_of_ble_eq_true rfl | (dsimp only; omega)), _, rfl, ?_⟩
    | refine ⟨Fits.mk (by first | exact Nat.le_of_ble_eq_true rfl | (dsimp only; omega)), _, rfl, ?_⟩
    | refine draw_go (C_ok W0) (by kernel_rfl) ?_
    | refine ⟨cpt_ok (by kernel_rfl), ?_⟩
    | refine ⟨InB.mk (by first | decide | omega) (by first | decide | omega), ?_⟩
    | refine ⟨SlB.mk (by first | omega | decide) (by first | omega | decide) (by first | omega | decide), ?_⟩
    | refine ⟨ShB.mk (by first | decide | omega), ?_⟩
    | refine ⟨NzB.mk (by first | decide | omega), ?_⟩
    | refine ⟨by decide, MkB.mk (by omega) (by omega) (by omega) (by omega), ?_⟩
    | refine ⟨trivial, ?_⟩
    | refine ⟨by decide, rfl, by decide, ?_⟩
    | refine .inr ⟨by decide, _, _, _, _, _, rfl, rfl, Fits.mk (by first | exact Nat.le_of_ble_eq_true rfl | omega), ?_⟩
    | refine .inr ⟨by decide, by decide, Room.mk (by decide) (by decide), ?_⟩
    | refine .inr ⟨by decide, _, _, _, _, _, rfl, rfl, Room.mk (by omega) (by omega), .inr (.inr ⟨(by omega), rfl, rfl, rfl, (by first | omega | (simp; done) | (simp; omega)), (by omega), rfl, ?_⟩)⟩
    | refine ⟨by decide, ?_⟩
    | refine ⟨subHi_le _ _ _, ?_⟩
    | refine ⟨_, rfl, ?_⟩
    | fail
  rfl
theorem cmp_neg (x y : Int) : IntKind.i64.wrap (0 - cmp (-x) (-y)) = cmp x y := by
  unfold cmp
  rcases Int.lt_trichotomy x y with h | h | h
  · rw [if_neg (by omega), if_pos (by omega), if_pos h]; exact wrap_in (by decide)
  · rw [if_neg (by omega), if_neg (by omega), if_neg (by omega), if_neg (by omega)]; exact wrap_in (by decide)
  · rw [if_pos (by omega), if_neg (by omega), if_pos (by omega)]; exact wrap_in (by decide)
end Go.Proofs.YtcfhmbhlibhlnaaDoor
