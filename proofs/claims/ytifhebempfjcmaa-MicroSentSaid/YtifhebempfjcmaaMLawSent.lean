/- MicroSent, pure. -/
import Derived.Test.YtifhebempfjcmaaMScale
import Derived.Test.YtifhebempfjcmaaMTimes
import Derived.Test.YtifhebempfjcmaaPxf12
namespace Go.Proofs.Ytifhebempfjcmaa.MM
open Go.RowKit Go.Proofs.Ytifhebempfjcmaa.P Go.Proofs.YtifhebempfjcmaaW.PrintWords Go.Proofs.YtifhebempfjcmaaW.PrintMore Go.Proofs.Ytifhebempfjcmaa.Mine
set_option linter.unusedVariables false
set_option linter.unusedSimpArgs false

theorem sent_last (k K : Nat) (v r x : Int) (hv : -1000000000000000 ≤ v ∧ v ≤ 1000000000000000) (hr : 1000 ≤ r ∧ r ≤ 1000000) (hx : x = Int.tdiv (v * 1000000) r)
    (hs : v < 1000000000000000 → micro_Scale.f k (v + 1) r = some (Int.tdiv ((v + 1) * 1000000) r, 0)) : tumblerlaw02_MicroSent.j0 (k + 2) v r x false = some true := by
  have last : tumblerlaw02_MicroSent.j1 (k + 1) v r x false = some true := by
    simp only [tumblerlaw02_MicroSent.j1, Bool.false_eq_true, if_false]
    by_cases c : v < 1000000000000000
    · rw [if_pos c, wrap_in (by omega), hs c]
      simp only [Option.bind_some, if_true]
      rw [decide_eq_true]
      rw [hx]
      exact tdiv_mono _ _ r (by omega) (by omega)
    · rw [if_neg c]
  simp only [tumblerlaw02_MicroSent.j0, Bool.false_eq_true, if_false]
  by_cases c : r = 1000000
  · have e : (x != v) = false := by
      rw [hx, c, Int.mul_tdiv_cancel _ (by decide)]; simp
    rw [if_pos c, e]; exact last
  · rw [if_neg c]; exact last
theorem MicroSent : tumblerlaw02_MicroSent.Pure := by
  intro v r hv hr
  have hv : Hi v := wf_i64 hv
  have hr : Hi r := wf_i64 hr
  by_cases c : (v > 1000000000000000 ∨ v < -1000000000000000) ∨ r < 1000 ∨ r > 1000000
  · obtain ⟨K, h7⟩ := Scale_is 7 1000000 (by decide) (by decide)
    rw [show Int.tdiv (7 * 1000000) 1000000 = 7 by decide] at h7
    refine ⟨K + 1, ?_⟩
    have e7 := h7 (K + 1) (by omega)
    simp only at e7
    have s1 : ∃ e, micro_Scale.f (K + 1) v r = some (0, e) ∧ e ≠ 0 := by
      simp only [micro_Scale.f, micro_Scale.j0]
      by_cases d : r < 1000
      · rw [if_pos d]; exact ⟨23, rfl, by decide⟩
      · rw [if_neg d]
        by_cases g : r > 1000000
        · rw [decide_eq_true g]; exact ⟨23, rfl, by decide⟩
        · rw [decide_eq_false g, if_neg (by decide)]
          by_cases f : v > 1000000000000000
          · rw [if_pos f]; exact ⟨22, rfl, by decide⟩
          · rw [if_neg f, if_pos (by omega)]; exact ⟨22, rfl, by decide⟩
    obtain ⟨e, s1, s2⟩ := s1
    simp only [tumblerlaw02_MicroSent.f, s1, Option.bind_some, s2, if_false, e7, if_true]
    repeat' split
    all_goals first | rfl | (rw [decide_eq_true (by omega)])
  · have hv' : -1000000000000000 ≤ v ∧ v ≤ 1000000000000000 := by omega
    have hr' : 1000 ≤ r ∧ r ≤ 1000000 := by omega
    have lim := scale_fit v r hv' hr'.1
    obtain ⟨mq, sq⟩ := tdiv_mag_pos (v * 1000000) r (by omega)
    rw [mag_mul, show mag 1000000 = 1000000 by decide] at mq
    obtain ⟨K, h1⟩ := Scale_is v r hv' hr'
    have mv : 0 ≤ mag v ∧ mag v ≤ 1000000000000000 := by unfold mag; split <;> omega
    obtain ⟨K1, h2⟩ := Times_small v 1000000 hv (by unfold U; decide) (by omega)
    have hx : Hi (Int.tdiv (v * 1000000) r) := Hi_c _ (by omega)
    have b1 : mag v * 1000000 / r * r ≤ mag v * 1000000 := Int.ediv_mul_le _ (by omega)
    have q0 : 0 ≤ mag v * 1000000 / r := Int.ediv_nonneg (by omega) (by omega)
    have b0 : 0 ≤ mag v * 1000000 / r * r := Int.mul_nonneg q0 (by omega)
    have b2 := Int.lt_ediv_add_one_mul_self (mag v * 1000000) (show 0 < r by omega)
    rw [Int.add_mul, Int.one_mul] at b2
    obtain ⟨K2, h3⟩ := Times_small (Int.tdiv (v * 1000000) r) r hx (by unfold U; omega) (by rw [mq]; omega)
    rw [mq] at h3
    obtain ⟨K3, h4⟩ : ∃ K3, ∀ k, K3 ≤ k → v < 1000000000000000 → micro_Scale.f k (v + 1) r = some (Int.tdiv ((v + 1) * 1000000) r, 0) := by
      by_cases d : v < 1000000000000000
      · obtain ⟨K3, h4⟩ := Scale_is (v + 1) r (by omega) hr'
        exact ⟨K3, fun k hk _ => h4 k hk⟩
      · exact ⟨0, fun _ _ h => absurd h d⟩
    refine ⟨max (max K K1) (max K2 K3) + 2, ?_⟩
    have e1 := h1 (max (max K K1) (max K2 K3) + 2) (by omega)
    have e2 := h2 (max (max K K1) (max K2 K3) + 2) (by omega)
    have e3 := h3 (max (max K K1) (max K2 K3) + 2) (by omega)
    have e4 := h4 (max (max K K1) (max K2 K3)) (by omega)
    simp only at e1 e2 e3
    generalize max (max K K1) (max K2 K3) = k at *
    have last := sent_last k 0 v r _ hv' hr' rfl e4
    have hd : Hi (wrap64 (IntKind.u64.wrap (mag v * 1000000 % 18446744073709551616 - mag v * 1000000 / r * r % 18446744073709551616))) := by unfold Hi wrap64; omega
    have hw : wrap64 (IntKind.u64.wrap (mag v * 1000000 % 18446744073709551616 - mag v * 1000000 / r * r % 18446744073709551616)) = mag v * 1000000 - mag v * 1000000 / r * r := by
      clear last e1 e2 e3 e4 h1 h2 h3 h4
      generalize mag v * 1000000 / r * r = b at *
      generalize mag v * 1000000 = a at *
      rw [wrap_u64]; unfold wrap64; omega
    simp only [tumblerlaw02_MicroSent.f, e1, Option.bind_some, if_true]
    rw [Of_is v hv, Of_is _ hx, mq, wraps_u64 r (by omega) (by omega)]
    simp only [Option.bind_some, e2, e3]
    rw [Of_is _ hd, hw, mag_pos (by omega)]
    simp only [Option.bind_some]
    rw [show decide (mag v * 1000000 - mag v * 1000000 / r * r ≥ r) = false from decide_eq_false (by omega)]
    have lim2 : mag v * 1000000 / r * r ≤ mag v * 1000000 := b1
    clear e1 e2 e3 e4 h1 h2 h3 h4 hd hw
    have s2 : Int.tdiv (v * 1000000) r ≠ 0 → (Int.tdiv (v * 1000000) r < 0 ↔ v < 0) := fun h => by have := sq h; omega
    generalize Int.tdiv (v * 1000000) r = x at *
    generalize mag v * 1000000 / r * r = b at *
    generalize mag v * 1000000 = a at *
    by_cases z : x = 0
    · repeat' split
      all_goals first | exact last | (exfalso; omega)
    · have s3 := s2 z
      have se : (decide (x < 0) != decide (v < 0)) = false := by
        by_cases d : v < 0
        · rw [decide_eq_true d, decide_eq_true (s3.2 d)]; rfl
        · rw [decide_eq_false d, decide_eq_false (fun x => d (s3.1 x))]; rfl
      simp only [se, Bool.false_eq_true, if_false]
      repeat' split
      all_goals first | exact last | (exfalso; omega)
end Go.Proofs.Ytifhebempfjcmaa.MM
