/- Wide.Mul. -/
import Derived.Test.YtifhebempfjcmaaMAmount
import Derived.Test.YtifhebempfjcmaaPxf44
import Derived.Test.YtifhebempfjcmaaPxf37
namespace Go.Proofs.Ytifhebempfjcmaa.MM
open Go.RowKit Go.Proofs.Ytifhebempfjcmaa.P Go.Proofs.YtifhebempfjcmaaW.PrintWords Go.Proofs.YtifhebempfjcmaaW.PrintMore Go.Proofs.Ytifhebempfjcmaa.Mine
set_option linter.unusedVariables false
set_option linter.unusedSimpArgs false

/-- math/bits.Mul64. -/
theorem Mul64_is (x y : Int) (hx : U x) (hy : U y) : bits_Mul64.f x y = some (x * y / 18446744073709551616, x * y % 18446744073709551616) := by
  unfold U at *
  unfold bits_Mul64.f
  rw [and_low x (by omega) (by omega), and_low y (by omega) (by omega)]
  generalize hx1 : x / 4294967296 = x1
  generalize hx0 : x % 4294967296 = x0
  generalize hy1 : y / 4294967296 = y1
  generalize hy0 : y % 4294967296 = y0
  have b1 : 0 ≤ x1 ∧ x1 ≤ 4294967295 := by omega
  have b0 : 0 ≤ x0 ∧ x0 ≤ 4294967295 := by omega
  have c1 : 0 ≤ y1 ∧ y1 ≤ 4294967295 := by omega
  have c0 : 0 ≤ y0 ∧ y0 ≤ 4294967295 := by omega
  have lim : ∀ a b : Int, 0 ≤ a ∧ a ≤ 4294967295 → 0 ≤ b ∧ b ≤ 4294967295 → 0 ≤ a * b ∧ a * b ≤ 18446744065119617025 := fun a b ha hb => by
    have h1 : a * b ≤ 4294967295 * 4294967295 := Int.mul_le_mul ha.2 hb.2 hb.1 (by omega)
    exact ⟨Int.mul_nonneg ha.1 hb.1, by omega⟩
  have p00 := lim x0 y0 b0 c0
  have p10 := lim x1 y0 b1 c0
  have p01 := lim x0 y1 b0 c1
  have p11 := lim x1 y1 b1 c1
  have hxy : x * y = x1 * y1 * 18446744073709551616 + (x1 * y0 + x0 * y1) * 4294967296 + x0 * y0 := by
    have e1 : x = x1 * 4294967296 + x0 := by omega
    have e2 : y = y1 * 4294967296 + y0 := by omega
    rw [e1, e2]; grind
  rw [hxy]
  generalize x0 * y0 = a at *
  generalize x1 * y0 = b at *
  generalize x0 * y1 = c at *
  generalize x1 * y1 = d at *
  have ea : IntKind.u64.wrap a = a := by rw [wrap_u64]; omega
  have eb : IntKind.u64.wrap b = b := by rw [wrap_u64]; omega
  have ec : IntKind.u64.wrap c = c := by rw [wrap_u64]; omega
  have ed : IntKind.u64.wrap d = d := by rw [wrap_u64]; omega
  have et : IntKind.u64.wrap (b + a / 4294967296) = b + a / 4294967296 := by rw [wrap_u64]; omega
  rw [ea, eb, ec, ed, et, and_low _ (by omega) (by omega)]
  have ew : IntKind.u64.wrap ((b + a / 4294967296) % 4294967296 + c) = (b + a / 4294967296) % 4294967296 + c := by rw [wrap_u64]; omega
  rw [ew, wrap_u64, wrap_u64, wrap_u64]
  exact pair2 (by omega) rfl
theorem Mul_half (k : Nat) (M N : Int) (h0 h1 g0 g1 : Int) (s : Bool) (R : Int × Int × Int) (hM : 0 ≤ M) (hM' : M < 340282366920938463463374607431768211456) (hN : 0 ≤ N) (hN' : N < 18446744073709551616) (hs : (decide (h0 < 0) != decide (g0 < 0)) = s)
    (hR : R = wenc (if s = true then -(M * N) else M * N)) (hK : ∀ l h, U l → U h → wide_signed.f k l h s = some (wsigned (h * 18446744073709551616 + l) s)) :
    wide_Mul.j1 (k + 1) h0 h1 g0 g1 (M % 18446744073709551616) (M / 18446744073709551616) (N % 18446744073709551616) (N / 18446744073709551616) = some R := by
  simp only [wide_Mul.j1]
  have u0 := U_mod M
  have u1 := U_div M hM hM'
  have v0 := U_mod N
  rw [Mul64_is _ _ u0 v0, Mul64_is _ _ u1 v0, hs, hR]
  have hp : M * N = (M / 18446744073709551616 * (N % 18446744073709551616)) * 18446744073709551616 + M % 18446744073709551616 * (N % 18446744073709551616) := by
    have e1 : N % 18446744073709551616 = N := by omega
    have e2 : M = M / 18446744073709551616 * 18446744073709551616 + M % 18446744073709551616 := by omega
    rw [e1]
    conv => lhs; rw [e2]
    rw [Int.add_mul, Int.mul_right_comm]
  have p1 : 0 ≤ M / 18446744073709551616 * (N % 18446744073709551616) := Int.mul_nonneg u1.1 v0.1
  have p0 : 0 ≤ M % 18446744073709551616 * (N % 18446744073709551616) := Int.mul_nonneg u0.1 v0.1
  have q0 : M % 18446744073709551616 * (N % 18446744073709551616) ≤ 18446744073709551615 * 18446744073709551615 := Int.mul_le_mul (by omega) (by omega) v0.1 (by omega)
  rw [hp]
  clear hp hR u0 u1 v0
  generalize M / 18446744073709551616 * (N % 18446744073709551616) = a at *
  generalize M % 18446744073709551616 * (N % 18446744073709551616) = b at *
  simp only [Option.bind_some]
  have ub : U (b / 18446744073709551616) := by unfold U; omega
  by_cases c : a / 18446744073709551616 > 0
  · rw [if_pos c, wenc_out]
    cases s <;> simp only [Bool.false_eq_true, if_false, if_true] <;> omega
  · rw [if_neg c, addHi_is _ _ _ ub (U_mod _) (by omega) (by omega), addLo_is _ _ _ ub (U_mod _) (by omega) (by omega)]
    by_cases d : (b / 18446744073709551616 + a % 18446744073709551616 + 0) / 18446744073709551616 > 0
    · rw [if_pos d, wenc_out]
      cases s <;> simp only [Bool.false_eq_true, if_false, if_true] <;> omega
    · rw [if_neg d, hK _ _ (U_mod _) (U_mod _)]
      simp only [Option.bind_some]
      have e : (b / 18446744073709551616 + a % 18446744073709551616 + 0) % 18446744073709551616 * 18446744073709551616 + b % 18446744073709551616 = a * 18446744073709551616 + b := by omega
      rw [e, wsigned_enc _ _ (by omega)]
theorem signed_all (s : Bool) : ∃ K, ∀ k, K ≤ k → ∀ l h, U l → U h → wide_signed.f k l h s = some (wsigned (h * 18446744073709551616 + l) s) :=
  ⟨1, fun k hk l h hl hh => by
    obtain ⟨k, rfl⟩ : ∃ j, k = j + 1 := ⟨k - 1, by omega⟩
    exact signed_at k l h s hl hh⟩
theorem Mul_is (h l h' l' : Int) (hh : Hi h) (hl : U l) (hh' : Hi h') (hl' : U l') :
    Ev (fun k => wide_Mul.f k h l h' l') (wenc ((h * 18446744073709551616 + l) * (h' * 18446744073709551616 + l'))) := by
  obtain ⟨K, hK⟩ := signed_all (decide (h < 0) != decide (h' < 0))
  refine ⟨K + 2, fun k hk => ?_⟩
  obtain ⟨k, rfl⟩ : ∃ j, k = j + 2 := ⟨k - 2, by omega⟩
  have hv := sign_mul (h * 18446744073709551616 + l) (h' * 18446744073709551616 + l')
  rw [← Hi_neg h l hl, ← Hi_neg h' l' hl'] at hv
  simp only [wide_Mul.f]
  rw [amount_is h l hh hl, amount_is h' l' hh' hl']
  simp only [Option.bind_some]
  have m1 := mag_lt h l hh hl
  have m2 := mag_lt h' l' hh' hl'
  have n1 := mag_nonneg (h * 18446744073709551616 + l)
  have n2 := mag_nonneg (h' * 18446744073709551616 + l')
  rw [← hv]
  generalize mag (h * 18446744073709551616 + l) = M at *
  generalize mag (h' * 18446744073709551616 + l') = N at *
  clear hv
  have hKk := hK k (by omega)
  generalize hs : (decide (h < 0) != decide (h' < 0)) = s at *
  by_cases c : M / 18446744073709551616 > 0
  · rw [if_pos c]
    by_cases d : N / 18446744073709551616 > 0
    · rw [decide_eq_true d]
      simp only [wide_Mul.j0, if_true]
      have : 18446744073709551616 * 18446744073709551616 ≤ M * N := Int.mul_le_mul (by omega) (by omega) (by omega) (by omega)
      rw [wenc_out]
      cases s <;> simp only [Bool.false_eq_true, if_false, if_true] <;> omega
    · rw [decide_eq_false d]
      simp only [wide_Mul.j0, Bool.false_eq_true, if_false]
      rw [if_neg d]
      exact Mul_half k M N h l h' l' s _ (by omega) (by omega) (by omega) (by omega) hs rfl hKk
  · rw [if_neg c]
    simp only [wide_Mul.j0, Bool.false_eq_true, if_false]
    by_cases d : N / 18446744073709551616 > 0
    · rw [if_pos d]
      exact Mul_half k N M h l h' l' s _ (by omega) (by omega) (by omega) (by omega) hs (by rw [Int.mul_comm N M]) hKk
    · rw [if_neg d]
      exact Mul_half k M N h l h' l' s _ (by omega) (by omega) (by omega) (by omega) hs rfl hKk
end Go.Proofs.Ytifhebempfjcmaa.MM
