/- The reference's Print. -/
import Derived.Test.YtcfhmbhlibhlnaaDoorMROpsM
import Derived.Test.YtcfhmbhlibhlnaaDoorMDigits
import Derived.Test.YtcfhmbhlibhlnaaDoorPxf26
namespace Go.Proofs.YtcfhmbhlibhlnaaDoor.MM
open Go.RowKit Go.Proofs.YtcfhmbhlibhlnaaDoor.P Go.Proofs.YtcfhmbhlibhlnaaDoorW.PrintWords Go.Proofs.YtcfhmbhlibhlnaaDoorW.PrintMore Go.Proofs.YtcfhmbhlibhlnaaDoor.Mine
set_option linter.unusedVariables false
set_option linter.unusedSimpArgs false

theorem strOf_dig (r : Int) (h0 : 0 ≤ r) (h1 : r < 10) : strOfNums [((48 + r) % 4294967296) % 256] = bs [dig r.toNat] := by
  unfold strOfNums bs dig
  simp only [List.map_cons, List.map_nil]
  rw [show (((48 + r) % 4294967296) % 256).toNat = 48 + r.toNat by omega]
def sgB (b : Bool) : List UInt8 := if b = true then [45] else []
/-- The numeral ahead of a text; nothing for 0. -/
def decA (m : Int) (s : List UInt8) : List UInt8 := if m = 0 then s else Lib.decDigits m.toNat ++ s
theorem decA_next (m : Int) (hm : 0 < m) (s : List UInt8) : decA (m / 10) (dig (m % 10).toNat :: s) = decA m s := by
  unfold decA
  rw [if_neg (show ¬ m = 0 by omega)]
  by_cases c : m / 10 = 0
  · rw [if_pos c, dec_small (by omega), show (m % 10).toNat = m.toNat by omega]; rfl
  · rw [if_neg c, dec_big (u := m.toNat) (by omega), show m.toNat / 10 = (m / 10).toNat by omega, show m.toNat % 10 = (m % 10).toNat by omega, List.append_assoc]; rfl
/-- The division by ten, from limb i - 1 down. -/
theorem ten_from (m : Int) (hm : 0 ≤ m) (hs : (lim m).length ≤ 1000) (neg : Bool) (L0 : List Int) (s : ByteArray) (R : ByteArray)
    (next : Ev (fun k => if (strOfNums [((48 + m % 10) % 4294967296) % 256]).size + s.size ≤ 9223372036854775807 then tumblerref01_PrintN.l0 k ((strOfNums [((48 + m % 10) % 4294967296) % 256]) ++ s) (lim (m / 10)) neg L0 else none) R) (i : Nat) :
    ∀ q : List Int, i ≤ (lim m).length → q.length = (lim m).length → Lm q → nv q = m / B i / 10 * B i →
    Ev (fun k => tumblerref01_PrintN.l1 k s (lim m) q (m / B i % 10) ((i : Int) - 1) neg L0) R := by
  induction i with
  | zero =>
    intro q _ hq hl hv
    rw [B_zero, Int.ediv_one, Int.mul_one] at hv
    obtain ⟨K, hK⟩ := next
    obtain ⟨K', hK'⟩ := Trim_is hl (show Sh q by unfold Sh; omega)
    rw [hv] at hK'
    refine ⟨max K K' + 1, fun k hk => ?_⟩
    obtain ⟨k, rfl⟩ : ∃ j, k = j + 1 := ⟨k - 1, by omega⟩
    have e := hK k (by omega)
    have e' := hK' k (by omega)
    simp only at e e'
    simp only [tumblerref01_PrintN.l1]
    rw [if_neg (by omega), B_zero, Int.ediv_one]
    simp only [Option.bind_some, e']
    exact e
  | succ i ih =>
    intro q hi hq hl hv
    have hiI : (((i + 1 : Nat) : Int) - 1) = (i : Int) := by omega
    have dg := digit_range m i
    have r := rd_nv (lim_Lm m hm) i
    rw [nv_lim m hm] at r
    have ds := div_B_succ m i
    have rq := rd_nv hl i
    rw [hv, B_succ, Int.mul_comm 65536 (B i), ← Int.mul_assoc, Int.mul_right_comm, Int.mul_ediv_cancel _ (by have := B_pos i; omega), Int.mul_emod_left] at rq
    have r0 : 0 ≤ m / B (i + 1) := Int.ediv_nonneg hm (Int.le_of_lt (B_pos _))
    generalize hX : m / B (i + 1) = X at *
    generalize hd : m / B i % 65536 = d at *
    have ev : ((X % 10 * 65536) % 4294967296 + d) % 4294967296 = X % 10 * 65536 + d := by omega
    have hdv : m / B i = 65536 * X + d := by rw [ds]
    obtain ⟨K, hK⟩ := ih (q.set i ((X % 10 * 65536 + d) / 10)) (by omega) (by rw [List.length_set]; exact hq) (Lm_set hl _ _ (by omega)) (by
      rw [nv_set i _ (by omega), rq, hv, B_succ, hdv, Int.sub_zero]
      have e1 : (65536 * X + d) / 10 = 65536 * (X / 10) + (X % 10 * 65536 + d) / 10 := by omega
      rw [e1, Int.add_mul, Int.mul_comm (B i)]
      have e2 : X / 10 * (65536 * B i) = 65536 * (X / 10) * B i := by rw [← Int.mul_assoc, Int.mul_comm (X / 10)]
      rw [e2])
    have em : m / B i % 10 = (X % 10 * 65536 + d) % 10 := by rw [hdv]; omega
    rw [em] at hK
    refine ⟨K + 1, fun k hk => ?_⟩
    obtain ⟨k, rfl⟩ : ∃ j, k = j + 1 := ⟨k - 1, by omega⟩
    have e := hK k (by omega)
    have hin : (i : Int) < ((lim m).length : Int) := by omega
    have hiq : (i : Int) < (q.length : Int) := by omega
    have hn : (i : Int) ≥ 0 := by omega
    have hw : wrap64 ((i : Int) - 1) = (i : Int) - 1 := wrap_i (by omega)
    simp only [tumblerref01_PrintN.l1]
    rw [hiI, if_pos hn, if_pos hn, if_pos hin, if_pos hiq, r, ev, Int.toNat_natCast, hw]
    exact e
theorem printN_from (neg : Bool) (L0 : List Int) (j : Nat) : ∀ (m : Int) (s : List UInt8), 0 ≤ m → m < 10 ^ j → s.length + j ≤ 1000 → (lim m).length ≤ 1000 →
    Ev (fun k => tumblerref01_PrintN.l0 k (bs s) (lim m) neg L0) (bs (sgB neg ++ decA m s)) := by
  induction j with
  | zero =>
    intro m s h0 h1 h2 h3
    have : m = 0 := by simp at h1; omega
    subst this
    refine ⟨1, fun k hk => ?_⟩
    obtain ⟨k, rfl⟩ : ∃ j, k = j + 1 := ⟨k - 1, by omega⟩
    simp only [tumblerref01_PrintN.l0]
    rw [if_neg (show ¬ (((lim 0).length : Int) > 0) by rw [lim_zero]; decide), bs_size, show (⟨#[45]⟩ : ByteArray) ++ bs s = bs (45 :: s) from bs_app [45] s]
    unfold sgB decA
    by_cases c : neg = true
    · rw [if_pos c, if_pos (by omega), if_pos c, if_pos rfl]; rfl
    · rw [if_neg c, if_neg c, if_pos rfl]; rfl
  | succ j ih =>
    intro m s h0 h1 h2 h3
    by_cases c : m = 0
    · subst c
      refine ⟨1, fun k hk => ?_⟩
      obtain ⟨k, rfl⟩ : ∃ j, k = j + 1 := ⟨k - 1, by omega⟩
      simp only [tumblerref01_PrintN.l0]
      rw [if_neg (show ¬ (((lim 0).length : Int) > 0) by rw [lim_zero]; decide), bs_size, show (⟨#[45]⟩ : ByteArray) ++ bs s = bs (45 :: s) from bs_app [45] s]
      unfold sgB decA
      by_cases c : neg = true
      · rw [if_pos c, if_pos (by omega), if_pos c, if_pos rfl]; rfl
      · rw [if_neg c, if_neg c, if_pos rfl]; rfl
    · have hp : 0 < m := by omega
      have lp := (lim_length_pos h0).2 hp
      have l1 : (lim (m / 10)).length ≤ 1000 := by
        have h := nv_lt (lim_Lm m h0)
        rw [nv_lim m h0] at h
        exact Nat.le_trans (lim_len (m / 10) (by omega) _ (by omega)) h3
      obtain ⟨K, hK⟩ := ih (m / 10) (dig (m % 10).toNat :: s) (by omega) (by rw [Int.pow_succ] at h1; omega) (by simp; omega) l1
      rw [decA_next m hp s] at hK
      have nx : Ev (fun k => if (strOfNums [((48 + m % 10) % 4294967296) % 256]).size + (bs s).size ≤ 9223372036854775807 then tumblerref01_PrintN.l0 k ((strOfNums [((48 + m % 10) % 4294967296) % 256]) ++ bs s) (lim (m / 10)) neg L0 else none) (bs (sgB neg ++ decA m s)) := by
        refine ⟨K, fun k hk => ?_⟩
        have e := hK k hk
        simp only at e
        show (if _ then _ else _) = _
        rw [strOf_dig _ (by omega) (by omega), bs_app, bs_size, bs_size, if_pos (by simp; omega)]
        exact e
      have hz : m / B (lim m).length = 0 := by
        have h := nv_lt (lim_Lm m h0)
        rw [nv_lim m h0] at h
        exact Int.ediv_eq_zero_of_lt h0 h
      obtain ⟨K', hK'⟩ := ten_from m h0 h3 neg L0 (bs s) _ nx (lim m).length (List.replicate (lim m).length 0) (Nat.le_refl _) (by simp) (Lm_zeros _) (by rw [nv_zeros, hz]; simp)
      rw [hz] at hK'
      refine ⟨K' + 1, fun k hk => ?_⟩
      obtain ⟨k, rfl⟩ : ∃ j, k = j + 1 := ⟨k - 1, by omega⟩
      have e := hK' k (by omega)
      simp only [tumblerref01_PrintN.l0]
      rw [if_pos (by omega), if_pos (by omega), Int.toNat_natCast, if_pos (by omega), wrap_i (by omega)]
      exact e
theorem PrintN_is (x : Int) (hx : Bd x) (hj : mag x < 10 ^ 900) : Ev (fun k => tumblerref01_PrintN.f k (num x).1 (num x).2) (bs (Lib.itoa x)) := by
  have lx := Bd_len hx
  have nx := mag_nonneg x
  simp only [tumblerref01_PrintN.f]
  by_cases c : x = 0
  · subst c
    refine ⟨0, fun k _ => ?_⟩
    show (if _ then _ else _) = _
    rw [if_pos (show (((num 0).2).length : Int) = 0 from rfl), show Lib.itoa 0 = Lib.decDigits 0 from rfl, dec_small (by decide)]; rfl
  · have hp : 0 < mag x := by unfold mag; split <;> omega
    have lp := (lim_length_pos nx).2 hp
    have h := printN_from (decide (x < 0)) (lim (mag x)) 900 (mag x) [] nx hj (by simp) lx
    have e : sgB (decide (x < 0)) ++ decA (mag x) [] = Lib.itoa x := by
      unfold sgB decA Lib.itoa
      rw [if_neg (show ¬ mag x = 0 by omega), List.append_nil]
      by_cases d : x < 0
      · rw [if_pos (decide_eq_true d), if_pos d, mag_neg d, show (-x).toNat = x.natAbs by omega]; rfl
      · rw [if_neg (by simpa using d), if_neg d, mag_pos (by omega)]; rfl
    rw [e] at h
    obtain ⟨K, hK⟩ := h
    refine ⟨K, fun k hk => ?_⟩
    show (if _ then _ else _) = _
    rw [if_neg (show ¬ (((num x).2).length : Int) = 0 by rw [num_lim]; omega)]
    exact hK k hk
theorem RPrint_is (h l : Int) (hh : Hi h) (hl : U l) : Ev (fun k => tumblerref01_Print.f k h l) (bs (Lib.itoa (h * 18446744073709551616 + l))) := by
  simp only [tumblerref01_Print.f]
  have m := mag_lt h l hh hl
  have hj : mag (h * 18446744073709551616 + l) < 10 ^ 900 := by
    have : (170141183460469231731687303715884105728 : Int) < 10 ^ 900 := by decide +kernel
    omega
  exact Ev.bind (From_is h l hh hl) (Ev.bind (PrintN_is _ (Bd_wide h l hh hl) hj) (Ev.now _))
end Go.Proofs.YtcfhmbhlibhlnaaDoor.MM
