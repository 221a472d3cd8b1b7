/- The reference's powers of ten. -/
import Derived.Test.YtifhebempfjcmaaMWords
import Derived.Test.YtifhebempfjcmaaPxf21
namespace Go.Proofs.Ytifhebempfjcmaa.MM
open Go.RowKit Go.Proofs.Ytifhebempfjcmaa.P Go.Proofs.YtifhebempfjcmaaW.PrintWords Go.Proofs.YtifhebempfjcmaaW.PrintMore Go.Proofs.Ytifhebempfjcmaa.Mine
set_option linter.unusedVariables false
set_option linter.unusedSimpArgs false

theorem Ten_from (n : Nat) (hn : n ≤ 6) (d : Nat) : ∀ i t : Int, 0 ≤ i → i + d = n → t = 10 ^ i.toNat → Ev (fun k => tumblerref02_Ten.l0 k n t i) (10 ^ n) := by
  induction d with
  | zero =>
    intro i t h0 hi ht
    refine ⟨1, fun k hk => ?_⟩
    obtain ⟨k, rfl⟩ : ∃ j, k = j + 1 := ⟨k - 1, by omega⟩
    simp only [tumblerref02_Ten.l0]
    rw [if_neg (by omega), ht, show i.toNat = n by omega]
  | succ d ih =>
    intro i t h0 hi ht
    have hp : (10 : Int) ^ (i + 1).toNat = 10 ^ i.toNat * 10 := by rw [show (i + 1).toNat = i.toNat + 1 by omega, Int.pow_succ]
    obtain ⟨K, hK⟩ := ih (i + 1) (t * 10) (by omega) (by omega) (by rw [ht, hp])
    refine ⟨K + 1, fun k hk => ?_⟩
    obtain ⟨k, rfl⟩ : ∃ j, k = j + 1 := ⟨k - 1, by omega⟩
    simp only [tumblerref02_Ten.l0]
    have ⟨hu, hz⟩ := ten_le (show i.toNat ≤ 6 by omega)
    rw [← ht] at hu hz
    rw [if_pos (by omega), wrap_u64, show wrap64 (i + 1) = i + 1 by unfold wrap64; omega, show t * 10 % 18446744073709551616 = t * 10 by omega]
    exact hK k (by omega)
theorem Ten_is (n : Nat) (hn : n ≤ 6) : Ev (fun k => tumblerref02_Ten.f k n) (10 ^ n) := Ten_from n hn n 0 1 (by omega) (by omega) rfl
end Go.Proofs.Ytifhebempfjcmaa.MM
