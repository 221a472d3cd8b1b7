/- Wide.Print. -/
import Derived.Test.YtcfhmbhlibhlnaaDoorMDivided
import Derived.Test.YtcfhmbhlibhlnaaDoorMDigits
import Derived.Test.YtcfhmbhlibhlnaaDoorPxf25
namespace Go.Proofs.YtcfhmbhlibhlnaaDoor.MM
open Go.RowKit Go.Proofs.YtcfhmbhlibhlnaaDoor.P Go.Proofs.YtcfhmbhlibhlnaaDoorW.PrintWords Go.Proofs.YtcfhmbhlibhlnaaDoorW.PrintMore Go.Proofs.YtcfhmbhlibhlnaaDoor.Mine
set_option linter.unusedVariables false
set_option linter.unusedSimpArgs false

theorem fmt_is (u : Int) (hu : U u) : strconv_FormatUint.f u 10 = some (bs (Lib.decDigits u.toNat)) := by
  unfold strconv_FormatUint.f
  rw [if_pos ⟨hu.1, hu.2, rfl⟩]; rfl
theorem rep_is (n : Nat) (hn : n ≤ 1000) : strings_Repeat.f (⟨#[48]⟩ : ByteArray) (n : Int) = some (bs (List.replicate n 48)) := by
  unfold strings_Repeat.f
  rw [if_pos ⟨by omega, by omega, by decide⟩, Int.toNat_natCast, show (⟨#[48]⟩ : ByteArray).data.toList = [48] from rfl, repeat_zero]; rfl
def sgn (h : Int) : List UInt8 := if h < 0 then [45] else []
theorem minus_is (s : List UInt8) : (⟨#[45]⟩ : ByteArray) ++ bs s = bs (45 :: s) := bs_app [45] s
theorem WPrint_from (h l : Int) (j : Nat) : ∀ (M : Int) (s : List UInt8), 0 ≤ M → M < 340282366920938463463374607431768211456 → M < 10 ^ (19 * j) → s.length + 19 * j ≤ 1000 →
    Ev (fun k => wide_Print.l0 k (bs s) h l (M % 18446744073709551616) (M / 18446744073709551616)) (bs (sgn h ++ (Lib.decDigits M.toNat ++ s))) := by
  induction j with
  | zero =>
    intro M s h0 h1 h2 h3
    have : M = 0 := by simp at h2; omega
    subst this
    obtain ⟨K, hK⟩ := divided_is 0 10000000000000000000 (by omega) (by omega) (by omega) (by omega)
    refine ⟨K + 1, fun k hk => ?_⟩
    obtain ⟨k, rfl⟩ : ∃ j, k = j + 1 := ⟨k - 1, by omega⟩
    have e := hK k (by omega)
    simp only [show (10000000000000000000 : Int) % 18446744073709551616 = 10000000000000000000 by decide, show (10000000000000000000 : Int) / 18446744073709551616 = 0 by decide, show (0 : Int) / 10000000000000000000 = 0 by decide, show (0 : Int) % 10000000000000000000 = 0 by decide, show (0 : Int) / 18446744073709551616 = 0 by decide, show (0 : Int) % 18446744073709551616 = 0 by decide] at e
    simp only [wide_Print.l0, show (0 : Int) / 18446744073709551616 = 0 by decide, show (0 : Int) % 18446744073709551616 = 0 by decide, e, Option.bind_some]
    rw [fmt_is 0 (by unfold U; omega)]
    simp only [Option.bind_some, if_true]
    rw [bs_app, bs_size, bs_size, bs_size]
    have hl : (Lib.decDigits (0 : Int).toNat).length ≤ 1 := dec_len (k := 0) (by decide)
    rw [if_pos (by omega), minus_is]
    unfold sgn
    by_cases c : h < 0
    · rw [if_pos c, if_pos (by rw [List.length_append]; omega), if_pos c]; rfl
    · rw [if_neg c, if_neg c]; rfl
  | succ j ih =>
    intro M s h0 h1 h2 h3
    obtain ⟨K, hK⟩ := divided_is M 10000000000000000000 h0 h1 (by omega) (by omega)
    simp only [show (10000000000000000000 : Int) % 18446744073709551616 = 10000000000000000000 by decide, show (10000000000000000000 : Int) / 18446744073709551616 = 0 by decide] at hK
    have er : M % 10000000000000000000 % 18446744073709551616 = M % 10000000000000000000 := by omega
    have ur : U (M % 10000000000000000000) := by unfold U; omega
    have hl : (Lib.decDigits (M % 10000000000000000000).toNat).length ≤ 19 := dec_len (k := 18) (by
      rw [show (10 : Nat) ^ (18 + 1) = 10000000000000000000 by decide]; omega)
    have hp := dec_pos (M % 10000000000000000000).toNat
    have ew : wrap64 (19 - ((Lib.decDigits (M % 10000000000000000000).toNat).length : Int)) = ((19 - (Lib.decDigits (M % 10000000000000000000).toNat).length : Nat) : Int) := by unfold wrap64; omega
    by_cases c : M / 10000000000000000000 = 0
    · refine ⟨K + 1, fun k hk => ?_⟩
      obtain ⟨k, rfl⟩ : ∃ j, k = j + 1 := ⟨k - 1, by omega⟩
      have e := hK k (by omega)
      have eM : M % 10000000000000000000 = M := by omega
      rw [eM] at hl hp ur
      simp only [c, show (0 : Int) / 18446744073709551616 = 0 by decide, show (0 : Int) % 18446744073709551616 = 0 by decide, er, eM] at e
      simp only [wide_Print.l0, e, Option.bind_some]
      rw [show M % 18446744073709551616 = M by unfold U at ur; omega, fmt_is M ur]
      simp only [Option.bind_some, if_true]
      rw [bs_app, bs_size, bs_size, bs_size, if_pos (by omega), minus_is]
      unfold sgn
      by_cases c : h < 0
      · rw [if_pos c, if_pos (by rw [List.length_append]; omega), if_pos c]; rfl
      · rw [if_neg c, if_neg c]; rfl
    · have q0 : 0 < M / 10000000000000000000 := by omega
      obtain ⟨K', hK'⟩ := ih (M / 10000000000000000000) (pad 19 (M % 10000000000000000000).toNat ++ s) (by omega) (by omega) (by
          rw [show 19 * (j + 1) = 19 * j + 19 by omega, Int.pow_add, show (10 : Int) ^ 19 = 10000000000000000000 by decide] at h2
          exact Int.ediv_lt_of_lt_mul (by decide) h2) (by
          unfold pad
          rw [List.length_append, List.length_append, List.length_replicate]; omega)
      have eD : Lib.decDigits (M / 10000000000000000000).toNat ++ (pad 19 (M % 10000000000000000000).toNat ++ s) = Lib.decDigits M.toNat ++ s := by
        rw [← List.append_assoc, ← dec_split _ 19 _ (by omega) (by decide) (by rw [show (10 : Nat) ^ 19 = 10000000000000000000 by decide]; omega)]
        congr 2
        rw [show (10 : Nat) ^ 19 = 10000000000000000000 by decide]; omega
      rw [eD] at hK'
      refine ⟨max K K' + 1, fun k hk => ?_⟩
      obtain ⟨k, rfl⟩ : ∃ j, k = j + 1 := ⟨k - 1, by omega⟩
      have e := hK k (by omega)
      have e' := hK' k (by omega)
      simp only [er] at e
      simp only at e'
      have tail : (if (bs (List.replicate (19 - (Lib.decDigits (M % 10000000000000000000).toNat).length) 48)).size + (bs (Lib.decDigits (M % 10000000000000000000).toNat)).size ≤ 9223372036854775807 then (if (bs (List.replicate (19 - (Lib.decDigits (M % 10000000000000000000).toNat).length) 48) ++ bs (Lib.decDigits (M % 10000000000000000000).toNat)).size + (bs s).size ≤ 9223372036854775807 then (wide_Print.l0 k ((bs (List.replicate (19 - (Lib.decDigits (M % 10000000000000000000).toNat).length) 48) ++ bs (Lib.decDigits (M % 10000000000000000000).toNat)) ++ bs s) h l (M / 10000000000000000000 % 18446744073709551616) (M / 10000000000000000000 / 18446744073709551616)) else (none)) else (none)) = some (bs (sgn h ++ (Lib.decDigits M.toNat ++ s))) := by
        rw [bs_app, bs_app, bs_size, bs_size, bs_size, bs_size, List.length_append, List.length_replicate, if_pos (by omega), if_pos (by omega)]
        exact e'
      simp only [wide_Print.l0, e, Option.bind_some]
      rw [fmt_is _ ur]
      simp only [Option.bind_some]
      rw [bs_size, ew, rep_is _ (by omega)]
      simp only [Option.bind_some]
      rw [bs_size] at tail
      by_cases d : M / 10000000000000000000 % 18446744073709551616 = 0
      · rw [if_pos d, if_neg (by omega)]; exact tail
      · rw [if_neg d]; exact tail
theorem sgn_itoa (h l : Int) (hl : U l) : sgn h ++ (Lib.decDigits (mag (h * 18446744073709551616 + l)).toNat ++ []) = Lib.itoa (h * 18446744073709551616 + l) := by
  unfold sgn Lib.itoa U at *
  rw [List.append_nil]
  by_cases c : h < 0
  · rw [if_pos c, if_pos (by omega), mag_neg (by omega), show (-(h * 18446744073709551616 + l)).toNat = (h * 18446744073709551616 + l).natAbs by omega]; rfl
  · rw [if_neg c, if_neg (by omega), mag_pos (by omega)]; rfl
theorem WPrint_is (h l : Int) (hh : Hi h) (hl : U l) : Ev (fun k => wide_Print.f k h l) (bs (Lib.itoa (h * 18446744073709551616 + l))) := by
  have m := mag_lt h l hh hl
  have n := mag_nonneg (h * 18446744073709551616 + l)
  simp only [wide_Print.f]
  rw [amount_is h l hh hl, ← sgn_itoa h l hl]
  simp only [Option.bind_some]
  exact WPrint_from h l 3 _ [] n (by omega) (by rw [show (10 : Int) ^ (19 * 3) = 1000000000000000000000000000000000000000000000000000000000 by decide]; omega) (by simp)
end Go.Proofs.YtcfhmbhlibhlnaaDoor.MM
