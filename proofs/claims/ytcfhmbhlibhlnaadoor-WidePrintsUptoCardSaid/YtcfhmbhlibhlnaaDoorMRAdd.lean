/- The reference's addL and subL. -/
import Derived.Test.YtcfhmbhlibhlnaaDoorMRTrim
import Derived.Test.YtcfhmbhlibhlnaaDoorPxf108
import Derived.Test.YtcfhmbhlibhlnaaDoorPxf110
namespace Go.Proofs.YtcfhmbhlibhlnaaDoor.MM
open Go.RowKit Go.Proofs.YtcfhmbhlibhlnaaDoor.P Go.Proofs.YtcfhmbhlibhlnaaDoorW.PrintWords Go.Proofs.YtcfhmbhlibhlnaaDoorW.PrintMore Go.Proofs.YtcfhmbhlibhlnaaDoor.Mine
set_option linter.unusedVariables false
set_option linter.unusedSimpArgs false

theorem digit_range (n : Int) (i : Nat) : 0 ≤ n / B i % 65536 ∧ n / B i % 65536 < 65536 := ⟨Int.emod_nonneg _ (by decide), Int.emod_lt_of_pos _ (by decide)⟩
/-- addL from round i on. -/
theorem addL_from (a b : List Int) (ha : Lm a) (hb : Lm b) (hsa : a.length ≤ 400000000) (hsb : b.length ≤ 400000000) (d : Nat) : ∀ (i : Nat) (out : List Int) (c : Int), a.length + b.length + 2 ≤ i + d → out.length = i → Lm out → (c = 0 ∨ c = 1) → i ≤ a.length + b.length + 1 → (a.length ≤ i → b.length ≤ i → c ≠ 0 → nv a % B i + nv b % B i = nv a + nv b) →
    nv out + B i * c = nv a % B i + nv b % B i → (i = a.length + b.length + 1 → c = 0) → Ev (fun k => tumblerref01_addL.l0 k a b out c (i : Int)) (lim (nv a + nv b)) := by
  induction d with
  | zero => intro i out c h1 h2 h3 h4 h5; omega
  | succ d ih =>
    intro i out c hd ho hlo hc hi _ hv hlast

    have hna := nv_nonneg ha
    have hnb := nv_nonneg hb
    by_cases go : i < a.length ∨ i < b.length ∨ c > 0
    · have da := digit_range (nv a) i
      have db := digit_range (nv b) i
      have e1 := mod_succ (nv a) i hna
      have e2 := mod_succ (nv b) i hnb
      have hi' : i < a.length + b.length + 1 := by
        rcases Nat.lt_or_eq_of_le hi with h | h
        · exact h
        · have := hlast h; omega
      have hfin : i + 1 = a.length + b.length + 1 → (nv a / B i % 65536 + nv b / B i % 65536 + c) / 65536 = 0 := by
        intro h
        by_cases z : a.length = 0
        · have : a = [] := List.length_eq_zero_iff.1 z
          subst this
          have hx : nv b / B i = 0 := by
            apply Int.ediv_eq_zero_of_lt hnb
            have := nv_lt hb
            rw [show i = b.length by simp at h; omega]; exact this
          simp only [nv, hx] at da db ⊢
          rw [Int.zero_ediv, Int.zero_emod]; omega
        · by_cases z' : b.length = 0
          · have : b = [] := List.length_eq_zero_iff.1 z'
            subst this
            have hx : nv a / B i = 0 := by
              apply Int.ediv_eq_zero_of_lt hna
              have := nv_lt ha
              rw [show i = a.length by simp at h; omega]; exact this
            simp only [nv, hx] at da db ⊢
            rw [Int.zero_ediv, Int.zero_emod]; omega
          · have hx : nv a / B i = 0 := by
              apply Int.ediv_eq_zero_of_lt hna
              have := nv_lt ha
              have h2 : B a.length ≤ B i := by
                rw [show i = a.length + (i - a.length) by omega, B_add]
                have := Int.mul_le_mul_of_nonneg_left (show 1 ≤ B (i - a.length) from B_pos _) (Int.le_of_lt (B_pos a.length))
                omega
              omega
            have hy : nv b / B i = 0 := by
              apply Int.ediv_eq_zero_of_lt hnb
              have := nv_lt hb
              have h2 : B b.length ≤ B i := by
                rw [show i = b.length + (i - b.length) by omega, B_add]
                have := Int.mul_le_mul_of_nonneg_left (show 1 ≤ B (i - b.length) from B_pos _) (Int.le_of_lt (B_pos b.length))
                omega
              omega
            rw [hx, hy, Int.zero_emod]; omega
      generalize hx : nv a / B i % 65536 = x at *
      generalize hy : nv b / B i % 65536 = y at *
      have hB := B_pos i
      obtain ⟨K, hK⟩ := ih (i + 1) (out ++ [(x + y + c) % 65536]) ((x + y + c) / 65536) (by omega) (by simp [ho]) (Lm_snoc hlo (by omega)) (by omega) (by omega) (fun h1 h2 _ => by
          rw [nv_mod_full ha _ h1, nv_mod_full hb _ h2]) (by
          rw [nv_snoc, ho, e1, e2, B_succ]
          have h1 : 65536 * B i * ((x + y + c) / 65536) = B i * (65536 * ((x + y + c) / 65536)) := by rw [Int.mul_comm 65536 (B i), Int.mul_assoc]
          rw [h1, Int.add_assoc, ← Int.mul_add, show (x + y + c) % 65536 + 65536 * ((x + y + c) / 65536) = x + y + c by omega, Int.mul_add, Int.mul_add]
          omega) (by intro h; exact hfin (by omega))
      refine ⟨K + 2, fun k hk => ?_⟩
      obtain ⟨k, rfl⟩ : ∃ j, k = j + 2 := ⟨k - 2, by omega⟩
      have e := hK k (by omega)
      have ej : tumblerref01_addL.j1 (k + 1) a b out c (i : Int) true = some (lim (nv a + nv b)) := by
        simp only [tumblerref01_addL.j1, if_true]
        rw [limb_is ha, limb_is hb, hx, hy]
        simp only [Option.bind_some]
        have es : ((x + y) % 4294967296 + c) % 4294967296 = x + y + c := by omega
        rw [if_pos (by omega), es, and_u32 _ (by omega) (by omega), wrap_i (by omega)]
        exact e
      simp only [tumblerref01_addL.l0]
      by_cases g1 : (i : Int) < (a.length : Int)
      · rw [if_pos g1]; exact ej
      · rw [if_neg g1]
        by_cases g2 : (i : Int) < (b.length : Int)
        · rw [if_pos g2]; exact ej
        · rw [if_neg g2, decide_eq_true (show c > 0 by omega)]; exact ej
    · have c0 : c = 0 := by omega
      subst c0
      rw [Int.mul_zero, Int.add_zero, nv_mod_full ha i (by omega), nv_mod_full hb i (by omega)] at hv
      obtain ⟨K, hK⟩ := Trim_is hlo (show Sh out by unfold Sh; omega)
      refine ⟨K + 2, fun k hk => ?_⟩
      obtain ⟨k, rfl⟩ : ∃ j, k = j + 2 := ⟨k - 2, by omega⟩
      have e := hK k (by omega)
      simp only at e
      simp only [tumblerref01_addL.l0]
      rw [if_neg (by omega), if_neg (by omega), show decide ((0 : Int) > 0) = false from rfl]
      simp only [tumblerref01_addL.j1, Bool.false_eq_true, if_false]
      rw [e, hv]; rfl
theorem AddL_is {a b : List Int} (ha : Lm a) (hb : Lm b) (hsa : a.length ≤ 400000000) (hsb : b.length ≤ 400000000) : Ev (fun k => tumblerref01_addL.f k a b) (lim (nv a + nv b)) := by
  refine addL_from a b ha hb hsa hsb (a.length + b.length + 2) 0 [] 0 (by omega) rfl Lm_nil (.inl rfl) (by omega) (fun _ _ h => absurd rfl h) ?_ (fun _ => rfl)
  rw [B_zero]; simp [nv]
/-- subL from round i on. -/
theorem subL_from (a b : List Int) (ha : Lm a) (hb : Lm b) (hsa : a.length ≤ 400000000) (hab : nv b ≤ nv a) (d : Nat) : ∀ (i : Nat) (out : List Int) (c : Int), a.length = i + d → out.length = i → Lm out → (c = 0 ∨ c = 1) →
    nv out - B i * c = nv a % B i - nv b % B i → Ev (fun k => tumblerref01_subL.l0 k a b out c (i : Int)) (lim (nv a - nv b)) := by
  have hna := nv_nonneg ha
  have hnb := nv_nonneg hb
  induction d with
  | zero =>
    intro i out c hd ho hlo hc hv
    have h1 := nv_lt ha
    have h2 := nv_lt hlo
    have h3 := nv_nonneg hlo
    rw [nv_mod_full ha i (by omega), Int.emod_eq_of_lt hnb (by rw [← show a.length = i by omega]; omega)] at hv
    have c0 : c = 0 := by
      rcases hc with h | h
      · exact h
      · subst h; rw [← show out.length = i from ho] at hv; omega
    subst c0
    obtain ⟨K, hK⟩ := Trim_is hlo (show Sh out by unfold Sh; omega)
    refine ⟨K + 1, fun k hk => ?_⟩
    obtain ⟨k, rfl⟩ : ∃ j, k = j + 1 := ⟨k - 1, by omega⟩
    have e := hK k (by omega)
    simp only at e
    simp only [tumblerref01_subL.l0]
    rw [if_neg (by omega), e, show nv out = nv a - nv b by rw [Int.mul_zero, Int.sub_zero] at hv; exact hv]; rfl
  | succ d ih =>
    intro i out c hd ho hlo hc hv
    have da := digit_range (nv a) i
    have db := digit_range (nv b) i
    have e1 := mod_succ (nv a) i hna
    have e2 := mod_succ (nv b) i hnb
    generalize hx : nv a / B i % 65536 = x at *
    generalize hy : nv b / B i % 65536 = y at *
    obtain ⟨K, hK⟩ := ih (i + 1) (out ++ [(x + 65536 - y - c) % 65536]) (1 - (x + 65536 - y - c) / 65536) (by omega) (by simp [ho]) (Lm_snoc hlo (by omega)) (by omega) (by
        rw [nv_snoc, ho, e1, e2, B_succ]
        have h1 : 65536 * B i * (1 - (x + 65536 - y - c) / 65536) = B i * (65536 * (1 - (x + 65536 - y - c) / 65536)) := by rw [Int.mul_comm 65536 (B i), Int.mul_assoc]
        rw [h1, Int.add_sub_assoc, ← Int.mul_sub, show (x + 65536 - y - c) % 65536 - 65536 * (1 - (x + 65536 - y - c) / 65536) = x - y - c by omega, Int.mul_sub, Int.mul_sub]
        omega)
    refine ⟨K + 1, fun k hk => ?_⟩
    obtain ⟨k, rfl⟩ : ∃ j, k = j + 1 := ⟨k - 1, by omega⟩
    have e := hK k (by omega)
    simp only [tumblerref01_subL.l0]
    rw [if_pos (by omega), limb_is ha, limb_is hb, hx, hy]
    simp only [Option.bind_some]
    have es : ((((x + 65536) % 4294967296 - y) % 4294967296 - c) % 4294967296) = x + 65536 - y - c := by omega
    rw [if_pos (by omega), es, and_u32 _ (by omega) (by omega), wrap_i (by omega), show (1 - (x + 65536 - y - c) / 65536) % 4294967296 = 1 - (x + 65536 - y - c) / 65536 by omega]
    exact e
theorem SubL_is {a b : List Int} (ha : Lm a) (hb : Lm b) (hsa : a.length ≤ 400000000) (hab : nv b ≤ nv a) : Ev (fun k => tumblerref01_subL.f k a b) (lim (nv a - nv b)) := by
  refine subL_from a b ha hb hsa hab a.length 0 [] 0 (by omega) rfl Lm_nil (.inl rfl) ?_
  rw [B_zero]; simp [nv]
end Go.Proofs.YtcfhmbhlibhlnaaDoor.MM
