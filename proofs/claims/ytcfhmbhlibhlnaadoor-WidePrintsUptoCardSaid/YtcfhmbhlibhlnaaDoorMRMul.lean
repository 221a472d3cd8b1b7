/- The reference's mulL. -/
import Derived.Test.YtcfhmbhlibhlnaaDoorMRCmp
import Derived.Test.YtcfhmbhlibhlnaaDoorPxf104
namespace Go.Proofs.YtcfhmbhlibhlnaaDoor.MM
open Go.RowKit Go.Proofs.YtcfhmbhlibhlnaaDoor.P Go.Proofs.YtcfhmbhlibhlnaaDoorW.PrintWords Go.Proofs.YtcfhmbhlibhlnaaDoorW.PrintMore Go.Proofs.YtcfhmbhlibhlnaaDoor.Mine
set_option linter.unusedVariables false
set_option linter.unusedSimpArgs false

theorem mul_sum (x y r c : Int) (hx : 0 ≤ x ∧ x < 65536) (hy : 0 ≤ y ∧ y < 65536) (hr : 0 ≤ r ∧ r < 65536) (hc : 0 ≤ c ∧ c < 65536) :
    IntKind.u64.wrap (IntKind.u64.wrap (IntKind.u64.wrap r + IntKind.u64.wrap (IntKind.u64.wrap x * IntKind.u64.wrap y)) + c) = r + x * y + c ∧ 0 ≤ r + x * y + c ∧ r + x * y + c < 4294967296 := by
  have h1 : x * y ≤ 65535 * 65535 := Int.mul_le_mul (by omega) (by omega) hy.1 (by decide)
  have h0 : 0 ≤ x * y := Int.mul_nonneg hx.1 hy.1
  rw [wrap_u (x := r) (by omega), wrap_u (x := x) (by omega), wrap_u (x := y) (by omega)]
  generalize x * y = p at *
  rw [wrap_u (x := p) (by omega), wrap_u (x := r + p) (by omega), wrap_u (by omega)]
  omega
/-- The inner loop of mulL, from round j on. -/
theorem mulL_in (a b : List Int) (ha : Lm a) (hb : Lm b) (hsa : a.length ≤ 400000000) (hsb : b.length ≤ 400000000) (i : Nat) (hi : i < a.length) (V : Int) (hV : V = nv a % B i * nv b) (R : List Int)
    (next : ∀ out, out.length = a.length + b.length → Lm out → nv out = nv a % B (i + 1) * nv b → Ev (fun k => tumblerref01_mulL.l0 k a b out ((i + 1 : Nat) : Int)) R) (d : Nat) :
    ∀ (j : Nat) (out : List Int) (c : Int), b.length + 1 = j + d → out.length = a.length + b.length → Lm out → 0 ≤ c ∧ c < 65536 → nv out + B (i + j) * c = V + B i * (nv a / B i % 65536) * (nv b % B j) → (d = 0 → c = 0) →
    Ev (fun k => tumblerref01_mulL.l1 k a b out (i : Int) c (j : Int)) R := by
  have hna := nv_nonneg ha
  have hnb := nv_nonneg hb
  have dx := digit_range (nv a) i
  have ex := mod_succ (nv a) i hna
  have fin : V + B i * (nv a / B i % 65536) * nv b = nv a % B (i + 1) * nv b := by rw [hV, ex, Int.add_mul]
  induction d with
  | zero =>
    intro j out c hd ho hl hc hv hz
    have := hz rfl
    subst this
    rw [nv_mod_full hb j (by omega), fin, Int.mul_zero, Int.add_zero] at hv
    obtain ⟨K, hK⟩ := next out ho hl hv
    refine ⟨K + 1, fun k hk => ?_⟩
    obtain ⟨k, rfl⟩ : ∃ j, k = j + 1 := ⟨k - 1, by omega⟩
    have e := hK k (by omega)
    simp only [tumblerref01_mulL.l1]
    rw [if_neg (by omega), if_neg (by omega), wrap_i (by omega)]
    exact e
  | succ d ih =>
    intro j out c hd ho hl hc hv hz
    by_cases go : j < b.length ∨ c > 0
    · have dy := digit_range (nv b) j
      have ey := mod_succ (nv b) j hnb
      have dr := rd_range hl ((i + j : Nat) : Int)
      have xa := rd_nv ha i
      have ns := nv_set (l := out) (i + j) ((rd out ((i + j : Nat) : Int) + nv a / B i % 65536 * (nv b / B j % 65536) + c) % 65536) (by omega)
      obtain ⟨m1, m2, m3⟩ := mul_sum _ _ _ c dx dy dr hc
      generalize hx : nv a / B i % 65536 = x at *
      generalize hy : nv b / B j % 65536 = y at *
      generalize hr : rd out ((i + j : Nat) : Int) = r at *
      have hs : Lm (out.set (i + j) ((r + x * y + c) % 65536)) := Lm_set hl _ _ (by omega)
      have hv' : nv (out.set (i + j) ((r + x * y + c) % 65536)) + B (i + (j + 1)) * ((r + x * y + c) / 65536) = V + B i * x * (nv b % B (j + 1)) := by
        rw [ns, ey, Int.mul_add (B i * x), ← Int.add_assoc V, ← hv, show i + (j + 1) = (i + j) + 1 by omega, B_succ, B_add]
        generalize B i = p
        generalize B j = q
        have e : x * y = (r + x * y + c) % 65536 + 65536 * ((r + x * y + c) / 65536) - r - c := by omega
        have e2 : p * x * (q * y) = p * q * (x * y) := by grind
        rw [e2]
        conv => rhs; rw [e]
        grind
      have hz' : d = 0 → (r + x * y + c) / 65536 = 0 := by
        intro h0
        rw [nv_mod_full hb (j + 1) (by omega), fin] at hv'
        have l1 := nv_nonneg hs
        have l2 : nv a % B (i + 1) * nv b < B (i + (j + 1)) := by
          have q1 : nv a % B (i + 1) < B (i + 1) := Int.emod_lt_of_pos _ (B_pos _)
          have q0 : 0 ≤ nv a % B (i + 1) := Int.emod_nonneg _ (by have := B_pos (i + 1); omega)
          have q2 := nv_lt hb
          have q3 : nv a % B (i + 1) * nv b ≤ nv a % B (i + 1) * B b.length := Int.mul_le_mul_of_nonneg_left (by omega) q0
          have q4 : nv a % B (i + 1) * B b.length < B (i + 1) * B b.length := Int.mul_lt_mul_of_pos_right q1 (B_pos _)
          rw [← B_add] at q4
          have q5 := B_le (show i + 1 + b.length ≤ i + (j + 1) by omega)
          omega
        have l3 : B (i + (j + 1)) * ((r + x * y + c) / 65536) < B (i + (j + 1)) * 1 := by omega
        have l4 := Int.lt_of_mul_lt_mul_left l3 (Int.le_of_lt (B_pos _))
        omega
      obtain ⟨K, hK⟩ := ih (j + 1) _ ((r + x * y + c) / 65536) (by omega) (by rw [List.length_set]; exact ho) hs (by omega) hv' hz'
      have hin : ((i + j : Nat) : Int) < (out.length : Int) := by omega
      have hi0 : (0 : Int) ≤ ((i + j : Nat) : Int) := by omega
      have hi1 : (i : Int) < (a.length : Int) := by omega
      have hj1 : -9223372036854775808 ≤ (j : Int) + 1 ∧ (j : Int) + 1 ≤ 9223372036854775807 := by omega
      have hi2 : (0 : Int) ≤ (i : Int) := by omega
      have hs64 : r + x * y + c < 18446744073709551616 := by omega
      have hs32 : (r + x * y + c) % 65536 % 4294967296 = (r + x * y + c) % 65536 := by omega
      have hcp : ¬ (j : Int) < (b.length : Int) → c > 0 := by omega
      have xb := limb_is hb j
      rw [hy] at xb
      have ei : wrap64 ((i : Int) + (j : Int)) = ((i + j : Nat) : Int) := by rw [wrap_i (by omega)]; omega
      refine ⟨K + 1, fun k hk => ?_⟩
      obtain ⟨k, rfl⟩ : ∃ j, k = j + 1 := ⟨k - 1, by omega⟩
      have e := hK k (by omega)
      simp only [tumblerref01_mulL.l1]
      rw [ei, xb, xa, hr]
      simp only [Option.bind_some]
      rw [m1, and_u64 _ m2 hs64, Int.toNat_natCast, hs32, wrap_i hj1]
      by_cases g : (j : Int) < (b.length : Int)
      · rw [if_pos g, if_pos hi0, if_pos hin, if_pos hi2, if_pos hi1]; exact e
      · rw [if_neg g, if_pos (hcp g), if_pos hi0, if_pos hin, if_pos hi2, if_pos hi1]; exact e
    · have c0 : c = 0 := by omega
      subst c0
      rw [nv_mod_full hb j (by omega), fin, Int.mul_zero, Int.add_zero] at hv
      obtain ⟨K, hK⟩ := next out ho hl hv
      refine ⟨K + 1, fun k hk => ?_⟩
      obtain ⟨k, rfl⟩ : ∃ j, k = j + 1 := ⟨k - 1, by omega⟩
      have e := hK k (by omega)
      simp only [tumblerref01_mulL.l1]
      rw [if_neg (by omega), if_neg (by omega), wrap_i (by omega)]
      exact e
theorem mulL_out (a b : List Int) (ha : Lm a) (hb : Lm b) (hsa : a.length ≤ 400000000) (hsb : b.length ≤ 400000000) (d : Nat) :
    ∀ (i : Nat) (out : List Int), a.length = i + d → out.length = a.length + b.length → Lm out → nv out = nv a % B i * nv b → Ev (fun k => tumblerref01_mulL.l0 k a b out (i : Int)) (lim (nv a * nv b)) := by
  induction d with
  | zero =>
    intro i out hd ho hl hv
    rw [nv_mod_full ha i (by omega)] at hv
    obtain ⟨K, hK⟩ := Trim_is hl (show Sh out by unfold Sh; omega)
    refine ⟨K + 1, fun k hk => ?_⟩
    obtain ⟨k, rfl⟩ : ∃ j, k = j + 1 := ⟨k - 1, by omega⟩
    have e := hK k (by omega)
    simp only at e
    simp only [tumblerref01_mulL.l0]
    rw [if_neg (by omega), e, hv]; rfl
  | succ d ih =>
    intro i out hd ho hl hv
    obtain ⟨K, hK⟩ := mulL_in a b ha hb hsa hsb i (by omega) _ rfl _ (fun out h1 h2 h3 => ih (i + 1) out (by omega) h1 h2 h3) (b.length + 1) 0 out 0 (by omega) ho hl (by omega) (by rw [B_zero, Int.emod_one, Int.mul_zero, Int.mul_zero, hv]) (by omega)
    refine ⟨K + 1, fun k hk => ?_⟩
    obtain ⟨k, rfl⟩ : ∃ j, k = j + 1 := ⟨k - 1, by omega⟩
    have e := hK k (by omega)
    simp only [tumblerref01_mulL.l0]
    rw [if_pos (by omega)]
    exact e
theorem MulL_is {a b : List Int} (ha : Lm a) (hb : Lm b) (hsa : a.length ≤ 400000000) (hsb : b.length ≤ 400000000) : Ev (fun k => tumblerref01_mulL.f k a b) (lim (nv a * nv b)) := by
  obtain ⟨K, hK⟩ := mulL_out a b ha hb hsa hsb a.length 0 (List.replicate (a.length + b.length) 0) (by omega) (by simp) (Lm_zeros _) (by rw [nv_zeros, B_zero, Int.emod_one, Int.zero_mul])
  refine ⟨K, fun k hk => ?_⟩
  have e := hK k hk
  have ew : wrap64 ((a.length : Int) + (b.length : Int)) = ((a.length + b.length : Nat) : Int) := by rw [wrap_i (by omega)]; omega
  simp only [tumblerref01_mulL.f]
  rw [ew, Int.toNat_natCast, if_pos (by omega), if_pos (by omega)]
  exact e
end Go.Proofs.YtcfhmbhlibhlnaaDoor.MM
