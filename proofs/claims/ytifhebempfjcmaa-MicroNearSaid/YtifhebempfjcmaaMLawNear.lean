/- MicroNear, pure. -/
import Derived.Test.YtifhebempfjcmaaMRound
import Derived.Test.YtifhebempfjcmaaMTen
import Derived.Test.YtifhebempfjcmaaPxf7
namespace Go.Proofs.Ytifhebempfjcmaa.MM
open Go.RowKit Go.Proofs.Ytifhebempfjcmaa.P Go.Proofs.YtifhebempfjcmaaW.PrintWords Go.Proofs.YtifhebempfjcmaaW.PrintMore Go.Proofs.Ytifhebempfjcmaa.Mine
set_option linter.unusedVariables false
set_option linter.unusedSimpArgs false

/-- What MicroNear's last part asks: r is v's nearest, a half away from 0. -/
theorem near_asks (k : Nat) (v r t : Int) (hv : Hi v) (hr : Hi r) (ht : 1 ≤ t ∧ t ≤ 1000000) (h1 : (v - r) * 2 ≤ t) (h2 : (r - v) * 2 ≤ t)
    (h3 : (v - r) * 2 = t → v < 0) (h4 : (r - v) * 2 = t → 0 ≤ v) : tumblerlaw02_MicroNear.j1 (k + 1) v r t false = some true := by
  unfold Hi at *
  have a1 : r < v → IntKind.u64.wrap (-(IntKind.u64.wrap ((IntKind.u64.wrap r) - (IntKind.u64.wrap v)))) = v - r := fun h => by rw [wrap_u64, wrap_u64, wrap_u64, wrap_u64]; omega
  have a2 : ¬ r < v → IntKind.u64.wrap ((IntKind.u64.wrap r) - (IntKind.u64.wrap v)) = r - v := fun h => by rw [wrap_u64, wrap_u64, wrap_u64]; omega
  have a3 : IntKind.u64.wrap t = t := by rw [wrap_u64]; omega
  simp only [tumblerlaw02_MicroNear.j1, Bool.false_eq_true, if_false]
  rw [a3]
  by_cases c : r < v
  · rw [if_pos c, a1 c, show IntKind.u64.wrap (2 * (v - r)) = 2 * (v - r) by rw [wrap_u64]; omega]
    repeat' split
    all_goals first | rfl | (exfalso; omega) | (rw [show (v - r == 0) = true from by rw [beq_iff_eq]; omega])
  · rw [if_neg c, a2 c, show IntKind.u64.wrap (2 * (r - v)) = 2 * (r - v) by rw [wrap_u64]; omega]
    repeat' split
    all_goals first | rfl | (exfalso; omega) | (rw [show (r - v == 0) = true from by rw [beq_iff_eq]; omega])
theorem MicroNear : tumblerlaw02_MicroNear.Pure := by
  intro v d hv hd
  have hv : Hi v := wf_i64 hv
  have hd : Hi d := wf_i64 hd
  by_cases c : d < 0 ∨ d > 6
  · refine ⟨1, ?_⟩
    have s1 : micro_Round.f 1 v d = some (0, 1) := by
      simp only [micro_Round.f, micro_Round.j0]
      by_cases g : d < 0
      · rw [if_pos g]; rfl
      · rw [if_neg g, decide_eq_true (by omega)]; rfl
    simp only [tumblerlaw02_MicroNear.f]
    rw [s1]
    simp only [Option.bind_some, tumblerlaw02_MicroNear.j0]
    by_cases g : d < 0
    · rw [if_pos g]; rfl
    · rw [if_neg g, decide_eq_true (by omega)]; rfl
  · obtain ⟨n, hn⟩ : ∃ n : Nat, d = 6 - (n : Int) := ⟨(6 - d).toNat, by omega⟩
    obtain ⟨K, h1⟩ := Round_is v n hv (by omega)
    obtain ⟨K', h2⟩ := Ten_is n (by omega)
    obtain ⟨t1, t0⟩ := ten_le (show n ≤ 6 by omega)
    rw [← hn] at h1
    generalize (10 : Int) ^ n = t at *
    refine ⟨max K K' + 2, ?_⟩
    have e1 := h1 (max K K' + 2) (by omega)
    have e2 := h2 (max K K' + 1) (by omega)
    simp only at e1 e2
    generalize max K K' = k at *
    have hm := mag_Hi hv
    obtain ⟨n0, n1, p0, p1, l1, l2, l3⟩ := near_lim (mag v) t hm (by omega)
    simp only [tumblerlaw02_MicroNear.f, e1, Option.bind_some]
    rw [if_neg (by omega), decide_eq_false (by omega)]
    simp only [tumblerlaw02_MicroNear.j0, Bool.false_eq_true, if_false]
    rw [wrap_in (x := 6 - d) (by omega), show (6 : Int) - d = n by omega, e2]
    simp only [Option.bind_some]
    rw [wrap_in (x := t) (by omega), wrap_in (x := 9223372036854775807 - t) (by omega), wrap_in (x := -9223372036854775808 + t) (by omega)]
    have hd : Int.tmod ((if v < 0 then -(near (mag v) t) else near (mag v) t) * t) t = 0 := Int.mul_tmod_left _ _
    have hx : (if v < 0 then -(near (mag v) t) else near (mag v) t) * t = if v < 0 then -(near (mag v) t * t) else near (mag v) t * t := by
      by_cases g : v < 0 <;> simp only [g, if_true, if_false, Int.neg_mul]
    rw [hx] at hd ⊢
    clear h1 h2 e1 e2 hx
    generalize near (mag v) t * t = p at *
    by_cases g : v < 0
    · have hmv : mag v = -v := mag_neg g
      simp only [if_pos g] at hd ⊢
      by_cases f : -9223372036854775808 ≤ -p ∧ -p ≤ 9223372036854775807
      · rw [fit_in f]
        simp only [if_true]
        rw [if_neg (by omega), if_pos hd]
        have q := near_asks k v (-p) t hv f (by omega) (by omega) (by omega) (by omega) (by omega)
        rw [if_neg (by omega)]
        by_cases w : -p < 0
        · rw [if_pos w, decide_eq_false (by omega)]; exact q
        · rw [if_neg w]; exact q
      · rw [fit_out f]
        simp only [if_true]
        rw [if_neg (by decide), if_neg (by unfold Hi at hv; omega), decide_eq_true (by omega)]
    · have hmv : mag v = v := mag_pos (by omega)
      simp only [if_neg g] at hd ⊢
      by_cases f : -9223372036854775808 ≤ p ∧ p ≤ 9223372036854775807
      · rw [fit_in f]
        simp only [if_true]
        rw [if_neg (by omega), if_pos hd]
        have q := near_asks k v p t hv f (by omega) (by omega) (by omega) (by omega) (by omega)
        by_cases w : p > 0
        · rw [if_pos w, if_neg (by omega)]; exact q
        · rw [if_neg w, if_neg (by omega)]; exact q
      · rw [fit_out f]
        simp only [if_true]
        rw [if_neg (by decide), if_pos (by omega)]
end Go.Proofs.Ytifhebempfjcmaa.MM
