/- The reference's cmpL. -/
import Derived.Test.YtcfhmbhlibhlnaaDoorMRAdd
import Derived.Test.YtcfhmbhlibhlnaaDoorMCmp
import Derived.Test.YtcfhmbhlibhlnaaDoorPxf109
namespace Go.Proofs.YtcfhmbhlibhlnaaDoor.MM
open Go.RowKit Go.Proofs.YtcfhmbhlibhlnaaDoor.P Go.Proofs.YtcfhmbhlibhlnaaDoorW.PrintWords Go.Proofs.YtcfhmbhlibhlnaaDoorW.PrintMore Go.Proofs.YtcfhmbhlibhlnaaDoor.Mine
set_option linter.unusedVariables false
set_option linter.unusedSimpArgs false

theorem B_le {i j : Nat} (h : i ≤ j) : B i ≤ B j := by
  obtain ⟨d, rfl⟩ : ∃ d, j = i + d := ⟨j - i, by omega⟩
  rw [B_add]
  have := Int.mul_le_mul_of_nonneg_left (show 1 ≤ B d from B_pos _) (Int.le_of_lt (B_pos i))
  omega
theorem div_B_succ (n : Int) (i : Nat) : n / B i = 65536 * (n / B (i + 1)) + n / B i % 65536 := by
  rw [B_succ, Int.mul_comm 65536 (B i), ← Int.ediv_ediv_of_nonneg (Int.le_of_lt (B_pos i))]; omega
theorem div_lt_of {n m : Int} {i : Nat} (h : n / B i < m / B i) : n < m := by
  rcases Int.lt_or_le n m with c | c
  · exact c
  · have := Int.ediv_le_ediv (B_pos i) c; omega
theorem cmpL_from (n m : Int) (hn : 0 ≤ n) (hm : 0 ≤ m) (he : (lim n).length = (lim m).length) (hs : (lim n).length ≤ 1000000000) (i : Nat) : i ≤ (lim n).length → n / B i = m / B i →
    Ev (fun k => tumblerref01_cmpL.l0 k (lim n) (lim m) ((i : Int) - 1)) (cmp n m) := by
  induction i with
  | zero =>
    intro _ h
    rw [B_zero, Int.ediv_one, Int.ediv_one] at h
    refine ⟨1, fun k hk => ?_⟩
    obtain ⟨k, rfl⟩ : ∃ j, k = j + 1 := ⟨k - 1, by omega⟩
    simp only [tumblerref01_cmpL.l0]
    rw [if_neg (by omega)]
    unfold cmp
    rw [if_neg (by omega), if_neg (by omega)]
  | succ i ih =>
    intro hi h
    have e1 := div_B_succ n i
    have e2 := div_B_succ m i
    rw [h] at e1
    have r1 := rd_nv (lim_Lm n hn) i
    have r2 := rd_nv (lim_Lm m hm) i
    rw [nv_lim n hn] at r1
    rw [nv_lim m hm] at r2
    by_cases c : n / B i = m / B i
    · obtain ⟨K, hK⟩ := ih (by omega) c
      refine ⟨K + 1, fun k hk => ?_⟩
      obtain ⟨k, rfl⟩ : ∃ j, k = j + 1 := ⟨k - 1, by omega⟩
      have e := hK k (by omega)
      simp only [tumblerref01_cmpL.l0]
      rw [show (((i + 1 : Nat) : Int) - 1) = (i : Int) by omega, if_pos (by omega), if_pos (by omega), if_pos (by omega), if_pos (by omega), r1, r2, c, if_neg (by omega), if_neg (by omega), wrap_i (by omega)]
      exact e
    · refine ⟨1, fun k hk => ?_⟩
      obtain ⟨k, rfl⟩ : ∃ j, k = j + 1 := ⟨k - 1, by omega⟩
      simp only [tumblerref01_cmpL.l0]
      rw [show (((i + 1 : Nat) : Int) - 1) = (i : Int) by omega, if_pos (by omega), if_pos (by omega), if_pos (by omega), if_pos (by omega), r1, r2]
      unfold cmp
      by_cases g : n / B i < m / B i
      · have := div_lt_of g
        rw [if_pos (by omega), if_pos this]
      · have := div_lt_of (n := m) (m := n) (i := i) (by omega)
        rw [if_neg (by omega), if_pos (by omega), if_neg (by omega), if_pos this]
theorem lim_len_lt {n m : Int} (hn : 0 ≤ n) (hm : 0 ≤ m) (h : (lim n).length < (lim m).length) : n < m := by
  have h1 := nv_lt (lim_Lm n hn)
  rw [nv_lim n hn] at h1
  have hp : 0 < m := (lim_length_pos hm).1 (by omega)
  obtain ⟨k, e, h2, h3⟩ := B_le_lim m hp
  have := B_le (show (lim n).length ≤ k by omega)
  omega
theorem lim_short {l : List Int} (hl : Lm l) : (lim (nv l)).length ≤ l.length := lim_len _ (nv_nonneg hl) _ (nv_lt hl)
theorem CmpL_is {a b : List Int} (ha : Lm a) (hb : Lm b) (hsa : Sh a) (hsb : Sh b) : Ev (fun k => tumblerref01_cmpL.f k a b) (cmp (nv a) (nv b)) := by
  have h0 := nv_nonneg ha
  have h1 := nv_nonneg hb
  have s0 := lim_short ha
  have s1 := lim_short hb
  have t0 := nv_lt ha
  have t1 := nv_lt hb
  unfold Sh at hsa hsb
  simp only [tumblerref01_cmpL.f]
  refine Ev.bind (Trim_is ha hsa) (Ev.bind (Trim_is hb hsb) ?_)
  generalize nv a = n at *
  generalize nv b = m at *
  by_cases c : (lim n).length = (lim m).length
  · have hx : n / B (lim n).length = m / B (lim n).length := by
      have l0 := nv_lt (lim_Lm n h0)
      have l1 := nv_lt (lim_Lm m h1)
      rw [nv_lim n h0] at l0
      rw [nv_lim m h1, ← c] at l1
      rw [Int.ediv_eq_zero_of_lt h0 l0, Int.ediv_eq_zero_of_lt h1 l1]
    obtain ⟨K, hK⟩ := cmpL_from n m h0 h1 c (by omega) _ (Nat.le_refl _) hx
    refine ⟨K, fun k hk => ?_⟩
    show (if _ then _ else _) = _
    rw [if_pos (by omega), wrap_i (by omega)]
    exact hK k hk
  · refine ⟨0, fun k _ => ?_⟩
    show (if _ then _ else _) = _
    rw [if_neg (by omega)]
    unfold cmp
    by_cases g : (lim n).length < (lim m).length
    · have := lim_len_lt h0 h1 g
      rw [if_pos (by omega), if_pos this]
    · have := lim_len_lt h1 h0 (by omega)
      rw [if_neg (by omega), if_neg (by omega), if_pos this]
end Go.Proofs.YtcfhmbhlibhlnaaDoor.MM
