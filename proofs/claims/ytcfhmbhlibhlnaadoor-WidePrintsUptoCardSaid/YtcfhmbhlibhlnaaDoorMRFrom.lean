/- The reference's From, To, over: a wide number as a number without bound, and back. -/
import Derived.Test.YtcfhmbhlibhlnaaDoorMRNum
import Derived.Test.YtcfhmbhlibhlnaaDoorMAmount
import Derived.Test.YtcfhmbhlibhlnaaDoorPxf69
import Derived.Test.YtcfhmbhlibhlnaaDoorPxf76
import Derived.Test.YtcfhmbhlibhlnaaDoorPxf73
namespace Go.Proofs.YtcfhmbhlibhlnaaDoor.MM
open Go.RowKit Go.Proofs.YtcfhmbhlibhlnaaDoor.P Go.Proofs.YtcfhmbhlibhlnaaDoorW.PrintWords Go.Proofs.YtcfhmbhlibhlnaaDoorW.PrintMore Go.Proofs.YtcfhmbhlibhlnaaDoor.Mine
set_option linter.unusedVariables false
set_option linter.unusedSimpArgs false

theorem place_u (j : Nat) (h : j < 4) : IntKind.u64.wrap (16 * IntKind.u64.wrap (j : Int)) = ((16 * j : Nat) : Int) := by
  rw [wrap_u (x := (j : Int)) (by omega), wrap_u (by omega)]; omega
theorem limb_at (x : Int) (h0 : 0 ≤ x) (h1 : x < 18446744073709551616) (j : Nat) (h : j < 4) :
    Go.bits .and .u32 ((shr .u64 x ((16 * j : Nat) : Int)) % 4294967296) 65535 = x / B j % 65536 := by
  rw [shr_at _ _ (by omega) (by omega), Int.toNat_natCast, ← B_two, and_u32 _ (by omega) (by omega)]
  omega
theorem from_hi (lo hi : Int) (n : Bool) (h0 : U lo) (h1 : U hi) (d : Nat) : ∀ (j : Nat) (out : List Int), j + d = 4 → out.length = 4 + j → Lm out → nv out = lo + B 4 * (hi % B j) →
    Ev (fun k => tumblerref01_From.l1 k out hi n (j : Int)) (num (if n = true then -(lo + B 4 * hi) else lo + B 4 * hi)) := by
  unfold U at h0 h1
  induction d with
  | zero =>
    intro j out hd ho hl hv
    obtain rfl : j = 4 := by omega
    obtain ⟨K, hK⟩ := Make2_is n hl (show Sh out by unfold Sh; omega)
    rw [show hi % B 4 = hi by rw [B4]; omega] at hv
    rw [hv] at hK
    refine ⟨K + 1, fun k hk => ?_⟩
    obtain ⟨k, rfl⟩ : ∃ j, k = j + 1 := ⟨k - 1, by omega⟩
    have e := hK k (by omega)
    simp only at e
    simp only [tumblerref01_From.l1]
    rw [if_neg (by omega), e]; rfl
  | succ d ih =>
    intro j out hd ho hl hv
    have dg := digit_range hi j
    obtain ⟨K, hK⟩ := ih (j + 1) (out ++ [hi / B j % 65536]) (by omega) (by simp [ho]; omega) (Lm_snoc hl dg) (by
      rw [nv_snoc, hv, ho, mod_succ _ _ (by omega), B_add, Int.mul_add, Int.mul_assoc]; omega)
    refine ⟨K + 1, fun k hk => ?_⟩
    obtain ⟨k, rfl⟩ : ∃ j, k = j + 1 := ⟨k - 1, by omega⟩
    have e := hK k (by omega)
    simp only [tumblerref01_From.l1]
    rw [if_pos (by omega), place_u j (by omega), if_pos (by omega), if_pos (by omega), limb_at hi h1.1 h1.2 j (by omega), wrap_i (by omega)]
    exact e
theorem from_lo (lo hi : Int) (n : Bool) (h0 : U lo) (h1 : U hi) (d : Nat) : ∀ (j : Nat) (out : List Int), j + d = 4 → out.length = j → Lm out → nv out = lo % B j →
    Ev (fun k => tumblerref01_From.l0 k out hi lo n (j : Int)) (num (if n = true then -(lo + B 4 * hi) else lo + B 4 * hi)) := by
  have h0' := h0
  unfold U at h0'
  induction d with
  | zero =>
    intro j out hd ho hl hv
    obtain rfl : j = 4 := by omega
    rw [show lo % B 4 = lo by rw [B4]; omega] at hv
    obtain ⟨K, hK⟩ := from_hi lo hi n h0 h1 4 0 out (by omega) (by omega) hl (by rw [B_zero, Int.emod_one, Int.mul_zero, Int.add_zero, hv])
    refine ⟨K + 1, fun k hk => ?_⟩
    obtain ⟨k, rfl⟩ : ∃ j, k = j + 1 := ⟨k - 1, by omega⟩
    have e := hK k (by omega)
    simp only [tumblerref01_From.l0]
    rw [if_neg (by omega)]; exact e
  | succ d ih =>
    intro j out hd ho hl hv
    have dg := digit_range lo j
    obtain ⟨K, hK⟩ := ih (j + 1) (out ++ [lo / B j % 65536]) (by omega) (by simp [ho]) (Lm_snoc hl dg) (by
      rw [nv_snoc, hv, ho, mod_succ _ _ (by omega)])
    refine ⟨K + 1, fun k hk => ?_⟩
    obtain ⟨k, rfl⟩ : ∃ j, k = j + 1 := ⟨k - 1, by omega⟩
    have e := hK k (by omega)
    simp only [tumblerref01_From.l0]
    rw [if_pos (by omega), place_u j (by omega), if_pos (by omega), if_pos (by omega), limb_at lo h0'.1 h0'.2 j (by omega), wrap_i (by omega)]
    exact e
theorem from_j (lo hi : Int) (n : Bool) (h0 : U lo) (h1 : U hi) : Ev (fun k => tumblerref01_From.j0 k [] hi lo n) (num (if n = true then -(lo + B 4 * hi) else lo + B 4 * hi)) := by
  obtain ⟨K, hK⟩ := from_lo lo hi n h0 h1 4 0 [] (by omega) rfl Lm_nil (by rw [B_zero, Int.emod_one]; rfl)
  refine ⟨K + 1, fun k hk => ?_⟩
  obtain ⟨k, rfl⟩ : ∃ j, k = j + 1 := ⟨k - 1, by omega⟩
  simp only [tumblerref01_From.j0]
  exact hK k (by omega)
theorem From_is (h l : Int) (hh : Hi h) (hl : U l) : Ev (fun k => tumblerref01_From.f k h l) (num (h * 18446744073709551616 + l)) := by
  have ux := U_mod h
  simp only [tumblerref01_From.f, wrap_u64]
  rw [xor_all _ hl.1 hl.2, xor_all _ ux.1 ux.2]
  unfold Hi U at *
  by_cases c : h < 0
  · simp only [c, if_true, decide_true]
    by_cases d : (18446744073709551615 - l + 1) % 18446744073709551616 = 0
    · simp only [d, if_true]
      have e := from_j 0 ((18446744073709551615 - h % 18446744073709551616 + 1) % 18446744073709551616) true (by unfold U; omega) (U_mod _)
      simp only [if_true] at e
      rwa [B4, show -(0 + 18446744073709551616 * ((18446744073709551615 - h % 18446744073709551616 + 1) % 18446744073709551616)) = h * 18446744073709551616 + l by omega] at e
    · simp only [d, if_false]
      have e := from_j ((18446744073709551615 - l + 1) % 18446744073709551616) (18446744073709551615 - h % 18446744073709551616) true (U_mod _) (by unfold U; omega)
      simp only [if_true] at e
      rwa [B4, show -((18446744073709551615 - l + 1) % 18446744073709551616 + 18446744073709551616 * (18446744073709551615 - h % 18446744073709551616)) = h * 18446744073709551616 + l by omega] at e
  · simp only [c, if_false, decide_false]
    have e := from_j l (h % 18446744073709551616) false (by unfold U; omega) (U_mod _)
    simp only [Bool.false_eq_true, if_false] at e
    rwa [B4, show l + 18446744073709551616 * (h % 18446744073709551616) = h * 18446744073709551616 + l by omega] at e
theorem bits_or_comm (x y : Int) : Go.bits .or .u64 x y = Go.bits .or .u64 y x := by
  show IntKind.u64.wrap (((BitVec.ofInt 64 x) ||| (BitVec.ofInt 64 y)).toNat : Int) = IntKind.u64.wrap (((BitVec.ofInt 64 y) ||| (BitVec.ofInt 64 x)).toNat : Int)
  rw [BitVec.or_comm]
theorem shl_u (x : Int) (j : Nat) (hj : j < 64) (h0 : 0 ≤ x) (h1 : x * 2 ^ j < 18446744073709551616) : shl .u64 x (j : Int) = x * 2 ^ j := by
  have e : min (j : Int).toNat (IntKind.u64.bits) = j := by show min (j : Int).toNat 64 = _; omega
  unfold shl; rw [e]
  exact wraps_u64 _ (Int.mul_nonneg h0 (Int.le_of_lt (two_pos j))) (by omega)
theorem or_up (v x : Int) (j : Nat) (hj : j < 4) (h0 : 0 ≤ v) (h1 : v < B j) (hx : 0 ≤ x ∧ x < 65536) : Go.bits .or .u64 v (shl .u64 (IntKind.u64.wrap x) ((16 * j : Nat) : Int)) = v + B j * x := by
  have hB := B_pos j
  have hB3 : B j ≤ B 3 := B_le (by omega)
  have h3 : B 3 = 281474976710656 := by decide +kernel
  have hm : x * B j ≤ 65535 * B j := Int.mul_le_mul_of_nonneg_right (by omega) (Int.le_of_lt hB)
  have hn : 0 ≤ x * B j := Int.mul_nonneg hx.1 (Int.le_of_lt hB)
  rw [wrap_u (x := x) (by omega), shl_u x (16 * j) (by omega) hx.1 (by rw [← B_two]; omega), ← B_two, bits_or_comm, Int.mul_comm (B j) x]
  rw [bits_join .u64 64 (by decide) wraps_u64 (16 * j) (x * B j) v hn (by rw [← B_two, Int.mul_emod_left]) (by omega) h0 (by rw [← B_two]; exact h1) (by omega)]
  omega
theorem word_from (n : Int) (hn : 0 ≤ n) (hs : (lim n).length ≤ 1000) (at_ : Nat) (ha : at_ ≤ 4) (d : Nat) : ∀ j : Nat, j + d = 4 →
    Ev (fun k => tumblerref01_word.l0 k (lim n) (at_ : Int) (n / B at_ % B j) (j : Int)) (n / B at_ % B 4) := by
  induction d with
  | zero =>
    intro j hd
    obtain rfl : j = 4 := by omega
    refine ⟨1, fun k hk => ?_⟩
    obtain ⟨k, rfl⟩ : ∃ j, k = j + 1 := ⟨k - 1, by omega⟩
    simp only [tumblerref01_word.l0]
    rw [if_neg (by omega)]
  | succ d ih =>
    intro j hd
    obtain ⟨K, hK⟩ := ih (j + 1) (by omega)
    have hq : 0 ≤ n / B at_ := Int.ediv_nonneg hn (Int.le_of_lt (B_pos _))
    have r := rd_nv (lim_Lm n hn) (at_ + j)
    rw [nv_lim n hn, B_add, ← Int.ediv_ediv_of_nonneg (Int.le_of_lt (B_pos at_))] at r
    have ew : wrap64 ((at_ : Int) + (j : Int)) = ((at_ + j : Nat) : Int) := by rw [wrap_i (by omega)]; omega
    have ms := mod_succ (n / B at_) j hq
    have dg := digit_range (n / B at_) j
    refine ⟨K + 1, fun k hk => ?_⟩
    obtain ⟨k, rfl⟩ : ∃ j, k = j + 1 := ⟨k - 1, by omega⟩
    have e := hK k (by omega)
    simp only at e
    simp only [tumblerref01_word.l0]
    rw [if_pos (by omega), ew, place_u j (by omega), wrap_i (x := (j : Int) + 1) (by omega)]
    by_cases c : ((at_ + j : Nat) : Int) < ((lim n).length : Int)
    · rw [if_pos c, if_pos (by omega), if_pos (by omega), r, or_up _ _ j (by omega) (Int.emod_nonneg _ (by have := B_pos j; omega)) (Int.emod_lt_of_pos _ (B_pos j)) dg, ← ms]
      exact e
    · rw [if_neg c]
      rw [rd_out _ (by omega)] at r
      rw [← r, Int.mul_zero, Int.add_zero] at ms
      rw [← ms]
      exact e
theorem Word_is (n : Int) (hn : 0 ≤ n) (hs : (lim n).length ≤ 1000) (at_ : Nat) (ha : at_ ≤ 4) : Ev (fun k => tumblerref01_word.f k (lim n) (at_ : Int)) (n / B at_ % B 4) := by
  have := word_from n hn hs at_ ha 4 0 (by omega)
  rw [B_zero, Int.emod_one] at this
  exact this
/-- The wide number of a number, if there is one. -/
def wto (x : Int) : Int × Int × Bool := if -170141183460469231731687303715884105728 ≤ x ∧ x < 170141183460469231731687303715884105728 then (x / 18446744073709551616, x % 18446744073709551616, true) else (0, 0, false)
theorem To_is (x : Int) (hx : Bd x) : Ev (fun k => tumblerref01_To.f k (num x).1 (num x).2) (wto x) := by
  have lx := Bd_len hx
  have nx := mag_nonneg x
  simp only [num_neg, num_lim, tumblerref01_To.f]
  by_cases c : ((lim (mag x)).length : Int) > 8
  · simp only [c, if_true]
    have hp : 0 < mag x := (lim_length_pos nx).1 (by omega)
    obtain ⟨k, e, h2, h3⟩ := B_le_lim (mag x) hp
    have := B_le (show 8 ≤ k by omega)
    rw [B8] at this
    refine ⟨0, fun k _ => ?_⟩
    have hm : 340282366920938463463374607431768211456 ≤ mag x := by omega
    clear h2 h3 hp c lx nx e
    unfold wto; rw [if_neg (by unfold mag at hm; split at hm <;> omega)]
  · simp only [c, if_false]
    have hb : mag x < B 8 := by
      have h1 := nv_lt (mag_Lm x)
      rw [mag_lim] at h1
      exact Int.lt_of_lt_of_le h1 (B_le (by omega))
    refine Ev.bind (Word_is (mag x) nx lx 0 (by omega)) (Ev.bind (Word_is (mag x) nx lx 4 (by omega)) ?_)
    rw [B_zero, Int.ediv_one, B4]
    rw [B8] at hb
    by_cases d : x < 0
    · have em : mag x = -x := mag_neg d
      rw [em] at hb nx lx ⊢
      have uy : U (-x / 18446744073709551616 % 18446744073709551616) := U_mod _
      have ux := U_mod (-x)
      have hy : -x / 18446744073709551616 % 18446744073709551616 = -x / 18446744073709551616 := by omega
      rw [hy] at uy ⊢
      have J : ∀ b : Bool, b = decide (-x > 170141183460469231731687303715884105728) → Ev (fun k => tumblerref01_To.j0 k (-x % 18446744073709551616) (-x / 18446744073709551616) b) (wto x) := by
        intro b hb'
        refine ⟨1, fun k hk => ?_⟩
        obtain ⟨k, rfl⟩ : ∃ j, k = j + 1 := ⟨k - 1, by omega⟩
        simp only [tumblerref01_To.j0]
        unfold wto
        by_cases f : -x > 170141183460469231731687303715884105728
        · rw [decide_eq_true f] at hb'
          rw [if_pos hb', if_neg (by omega)]
        · rw [decide_eq_false f] at hb'
          subst hb'
          rw [if_neg (by decide), xor_all _ ux.1 ux.2, xor_all _ uy.1 uy.2, wrap_u64, wrap_u64, if_pos (show _ ∧ _ by omega)]
          unfold wrap64
          split
          · exact trip (by omega) (by omega) rfl
          · exact trip (by omega) (by omega) rfl
      simp only [d, decide_true, if_true]
      by_cases g : -x / 18446744073709551616 > 9223372036854775808
      · simp only [g, if_true]; exact J _ (decide_eq_true (by omega)).symm
      · simp only [g, if_false]
        by_cases g' : -x / 18446744073709551616 = 9223372036854775808
        · simp only [g', if_true]; rw [← g']; exact J _ (decide_eq_decide.2 (by omega))
        · simp only [g', if_false]; exact J _ (decide_eq_false (by omega)).symm
    · have em : mag x = x := mag_pos (by omega)
      rw [em] at hb nx lx ⊢
      simp only [d, decide_false, Bool.false_eq_true, if_false]
      refine ⟨0, fun k _ => ?_⟩
      unfold wto tumblerref01_fits.f
      by_cases g : x < 170141183460469231731687303715884105728
      · rw [decide_eq_true (by omega), if_pos (show _ ∧ _ by omega), if_pos rfl]
        simp only [Option.bind_some]
        unfold wrap64
        exact trip (by omega) (by omega) rfl
      · rw [decide_eq_false (by omega), if_neg (by decide), if_neg (by clear nx lx hb em; omega)]
        rfl
theorem Over_is (x : Int) (hx : Bd x) : Ev (fun k => tumblerref01_over.f k (num x).1 (num x).2) (wenc x) := by
  simp only [tumblerref01_over.f]
  refine Ev.bind (To_is x hx) ⟨0, fun k _ => ?_⟩
  unfold wto wenc
  split <;> rfl
end Go.Proofs.YtcfhmbhlibhlnaaDoor.MM
