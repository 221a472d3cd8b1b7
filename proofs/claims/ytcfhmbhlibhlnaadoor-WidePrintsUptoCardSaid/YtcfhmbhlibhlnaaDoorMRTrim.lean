/- The reference's trim, make2, limb: lists of limbs as numbers. -/
import Derived.Test.YtcfhmbhlibhlnaaDoorMLimbs
import Derived.Test.YtcfhmbhlibhlnaaDoorPxf103
import Derived.Test.YtcfhmbhlibhlnaaDoorPxf81
import Derived.Test.YtcfhmbhlibhlnaaDoorPxf126
namespace Go.Proofs.YtcfhmbhlibhlnaaDoor.MM
open Go.RowKit Go.Proofs.YtcfhmbhlibhlnaaDoor.P Go.Proofs.YtcfhmbhlibhlnaaDoorW.PrintWords Go.Proofs.YtcfhmbhlibhlnaaDoorW.PrintMore Go.Proofs.YtcfhmbhlibhlnaaDoor.Mine
set_option linter.unusedVariables false
set_option linter.unusedSimpArgs false

/-- No list is longer than this. -/
def Sh (l : List Int) : Prop := l.length ≤ 1000000000
theorem wrap_i {x : Int} (h : -9223372036854775808 ≤ x ∧ x ≤ 9223372036854775807) : wrap64 x = x := by unfold wrap64; omega
theorem wrap_u {x : Int} (h : 0 ≤ x ∧ x < 18446744073709551616) : IntKind.u64.wrap x = x := wraps_u64 x h.1 (by omega)
theorem rd_last (a : List Int) (x : Int) : rd (a ++ [x]) (a.length : Int) = x := by
  unfold rd; rw [Int.toNat_natCast]; simp
theorem trim_is (n : Nat) : ∀ l : List Int, l.length = n → Lm l → Sh l → Ev (fun k => tumblerref01_trim.f k l) (lim (nv l)) := by
  induction n with
  | zero =>
    intro l hn hl hs
    obtain rfl := List.length_eq_zero_iff.1 hn
    refine ⟨1, fun k hk => ?_⟩
    obtain ⟨k, rfl⟩ : ∃ j, k = j + 1 := ⟨k - 1, by omega⟩
    simp [tumblerref01_trim.f, tumblerref01_trim.l0, nv, lim_zero]
  | succ n ih =>
    intro l hn hl hs
    obtain ⟨a, x, rfl⟩ : ∃ a x, l = a ++ [x] := ⟨l.dropLast, l.getLast (by intro e; subst e; simp at hn), (List.dropLast_concat_getLast _).symm⟩
    unfold Sh at hs
    rw [List.length_append, List.length_singleton] at hn hs
    obtain ⟨K, hK⟩ := ih a (by omega) (Lm_left hl) (by unfold Sh; omega)
    have hx := hl x (by simp)
    refine ⟨K + 1, fun k hk => ?_⟩
    obtain ⟨k, rfl⟩ : ∃ j, k = j + 1 := ⟨k - 1, by omega⟩
    have e := hK k (by omega)
    have e1 : wrap64 (((a ++ [x]).length : Int) - 1) = (a.length : Int) := by
      rw [List.length_append, List.length_singleton]
      rw [wrap_i (by omega)]; omega
    simp only [tumblerref01_trim.f] at e ⊢
    simp only [tumblerref01_trim.l0]
    rw [e1, if_pos (by rw [List.length_append, List.length_singleton]; omega), if_pos (by omega), if_pos (by rw [List.length_append, List.length_singleton]; omega), rd_last]
    by_cases c : x = 0
    · rw [if_pos c, if_pos (by rw [List.length_append, List.length_singleton]; omega), Int.toNat_natCast, List.take_left, e, nv_snoc, c, Int.mul_zero, Int.add_zero]
    · rw [if_neg c, lim_nv hl (by intro y hy; simp at hy; omega)]
theorem Trim_is {l : List Int} (hl : Lm l) (hs : Sh l) : Ev (fun k => tumblerref01_trim.f k l) (lim (nv l)) := trim_is _ l rfl hl hs
/-- A number without bound, as the reference tells it. -/
def num (x : Int) : Bool × List Int := (decide (x < 0), lim (mag x))
theorem Make2_is (b : Bool) {l : List Int} (hl : Lm l) (hs : Sh l) : Ev (fun k => tumblerref01_make2.f k b l) (num (if b = true then -nv l else nv l)) := by
  obtain ⟨K, hK⟩ := Trim_is hl hs
  have h0 := nv_nonneg hl
  have hp := lim_length_pos h0
  refine ⟨K, fun k hk => ?_⟩
  have e := hK k hk
  simp only at e
  simp only [tumblerref01_make2.f, e, Option.bind_some]
  unfold num mag
  generalize nv l = n at *
  cases b
  · simp only [Bool.false_eq_true, if_false]
    rw [if_neg (by omega), decide_eq_false (by omega)]
  · simp only [if_true]
    refine pair2 (decide_eq_decide.2 (by omega)) ?_
    by_cases c : n = 0
    · subst c; rfl
    · rw [if_pos (by omega), Int.neg_neg]
theorem limb_is {l : List Int} (hl : Lm l) (i : Nat) : tumblerref01_limb.f l (i : Int) = some (nv l / B i % 65536) := by
  unfold tumblerref01_limb.f
  rw [← rd_nv hl]
  by_cases c : (i : Int) < (l.length : Int)
  · rw [if_pos c, if_pos (by omega)]
  · rw [if_neg c, rd_out _ (by omega)]
theorem and_u32 (x : Int) (h0 : 0 ≤ x) (h1 : x < 4294967296) : Go.bits .and .u32 x 65535 = x % 65536 :=
  bits_mask .u32 32 (by decide) (fun n h0 h1 => by simp [IntKind.wrap, IntKind.bits, IntKind.signed]; omega) 16 (by decide) x h0 (by simpa using h1)
theorem and_u64 (x : Int) (h0 : 0 ≤ x) (h1 : x < 18446744073709551616) : Go.bits .and .u64 x 65535 = x % 65536 :=
  bits_mask .u64 64 (by decide) wraps_u64 16 (by decide) x h0 (by simpa using h1)
theorem Sh_lim (n : Int) (hn : 0 ≤ n) (k : Nat) (h : n < B k) (hk : k ≤ 1000000000) : Sh (lim n) := by
  have := lim_len n hn k h
  unfold Sh; omega
end Go.Proofs.YtcfhmbhlibhlnaaDoor.MM
