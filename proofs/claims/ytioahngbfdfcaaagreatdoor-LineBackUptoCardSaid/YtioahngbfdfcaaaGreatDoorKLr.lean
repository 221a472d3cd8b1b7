import Derived.Test.YtioahngbfdfcaaaGreatDoorKWp
import Derived.Test.YtioahngbfdfcaaaGreatDoorKLi
import Derived.Test.YtioahngbfdfcaaaGreatDoorKLf
set_option linter.unusedVariables false
set_option linter.unusedSimpArgs false
namespace Go.Proofs.YtioahngbfdfcaaaGreatDoor
open Go Go.Den Go.RowKit
variable {W0 : World}
/-! LineDeltas -/
theorem show_bytes (v : Int) : ∀ c ∈ showW v, c = 45 ∨ c = 46 ∨ (48 ≤ c.toNat ∧ c.toNat ≤ 57) := by
  intro c hc
  unfold showW at hc
  rcases List.mem_append.mp hc with hc | hc
  · split at hc
    · exact .inl (by simpa using hc)
    · cases hc
  · rcases List.mem_append.mp hc with hc | hc
    · exact .inr (.inr (dec_digit _ c hc))
    · unfold frac at hc
      split at hc
      · cases hc
      · rcases List.mem_cons.mp hc with hc | hc
        · exact .inr (.inl hc)
        · exact .inr (.inr (pad_dig _ _ c (stripz_sub _ c hc)))
theorem show_not (v : Int) {b : UInt8} (h1 : b ≠ 45) (h2 : b ≠ 46) (h3 : ¬ (48 ≤ b.toNat ∧ b.toNat ≤ 57)) : b ∉ showW v := fun h => by
  rcases show_bytes v b h with g | g | g
  · exact h1 g
  · exact h2 g
  · exact h3 g
theorem show_bar (v : Int) : (124 : UInt8) ∉ showW v := show_not v (by decide) (by decide) (by decide)
/-- A number that is not below 0: it begins with a digit. -/
theorem show_head {v : Int} (h : 0 ≤ v) : ∃ c t, showW v = c :: t ∧ 48 ≤ c.toNat ∧ c.toNat ≤ 57 := by
  unfold showW
  rw [if_neg (by omega), List.nil_append]
  cases hd : Lib.decDigits (v.natAbs / 1000000) with
  | nil => have := dec_pos (v.natAbs / 1000000); rw [hd] at this; simp at this
  | cons c t =>
    have := dec_digit (v.natAbs / 1000000) c (by rw [hd]; simp)
    exact ⟨c, _, rfl, this⟩
theorem parse_minus {v : Int} (h : 0 ≤ v) (hv : v ≤ 1000000000000000) : parseV (45 :: showW v) = (-v, 0) := by
  have e := decT_show (v.natAbs / 1000000) (v.natAbs % 1000000) (Nat.mod_lt _ (by decide))
  have w := val_show v
  have l := tail6_len (v.natAbs % 1000000) (Nat.mod_lt _ (by decide))
  have es : showW v = Lib.decDigits (v.natAbs / 1000000) ++ frac (v.natAbs % 1000000) := by unfold showW; rw [if_neg (by omega), List.nil_append]
  unfold parseV decOf
  rw [cutm_cons, if_pos rfl, es, e]
  dsimp only [Option.map]
  rw [if_neg (by omega), w, if_pos (by omega)]
  unfold sgv
  rw [if_pos rfl]
  congr 1; omega
theorem parse_plus (l : List UInt8) : (parseV (43 :: l)).2 = 20 := by
  unfold parseV decOf
  rw [cutm_cons, if_neg (by decide)]
  rfl
abbrev evD (k v : Int) (d : Bool) : Ev := ⟨[110], k, v, d, [], 1000000, false, 0⟩
theorem one_val {p0 kd : List UInt8} (h2 : (124 : UInt8) ∉ p0) (h3 : (124 : UInt8) ∉ kd) (hl : p0.length + kd.length ≤ 1000) :
    parseL (110 :: 58 :: (p0 ++ 124 :: kd)) = if kindL kd = 0 then (ev0, ((2 + p0.length + 1 : Nat) : Int), 43) else if (takeV (evD (kindL kd) 0 false) p0).2 = true then ((takeV (evD (kindL kd) 0 false) p0).1, 0, 0) else (ev0, 2, 42) := by
  have j := parse_join (n := [110]) (p0 := p0) (kd := kd) (fs := []) (by decide) h2 h3 (by simp) (by simp [barJ]; omega)
  have e : ([110] : List UInt8) ++ 58 :: (p0 ++ barJ [kd]) = 110 :: 58 :: (p0 ++ 124 :: kd) := by simp [barJ]
  rw [e] at j
  rw [j]
  have c : cleanV [110] = ([110], true) := by decide +kernel
  unfold parseP
  rw [c, if_pos rfl]
  rfl
section
variable {u : Int}
theorem take_g0 (h : 0 ≤ u) (hu : u ≤ 100000000000000) : takeV (evD 2 0 false) (showW u) = (evD 2 u false, true) := by
  obtain ⟨c, t, e, h1, h2⟩ := show_head h
  have p := parseV_show u
  rw [if_pos (by omega)] at p
  have n1 : heads 43 (showW u) = false := by rw [e]; exact decide_eq_false fun z => by subst z; exact absurd h1 (by decide)
  have n2 : heads 45 (showW u) = false := by rw [e]; exact decide_eq_false fun z => by subst z; exact absurd h1 (by decide)
  unfold takeV takeN
  rw [if_neg (by decide), if_pos rfl, n1, n2, p]
  rfl
theorem take_g1 (h : 0 ≤ u) (hu : u ≤ 100000000000000) : takeV (evD 2 0 false) (43 :: showW u) = (evD 2 u true, true) := by
  obtain ⟨c, t, e, h1, h2⟩ := show_head h
  have p := parseV_show u
  rw [if_pos (by omega)] at p
  have n2 : heads 45 (showW u) = false := by rw [e]; exact decide_eq_false fun z => by subst z; exact absurd h1 (by decide)
  unfold takeV takeN
  rw [if_neg (by decide), if_pos rfl, if_pos (show heads 43 ((43 : UInt8) :: showW u) = true from rfl), List.tail_cons, n2, p]
  rfl
theorem take_g2 (h : 0 ≤ u) (hu : u ≤ 100000000000000) : takeV (evD 2 0 false) (45 :: showW u) = (evD 2 (-u) true, true) := by
  have p := parse_minus h (by omega)
  unfold takeV takeN
  rw [if_neg (by decide), if_pos rfl, show heads 43 ((45 : UInt8) :: showW u) = false from rfl, p]
  rfl
theorem take_plus {k : Int} (h2 : k ≠ 2) (h4 : k ≠ 4) (l : List UInt8) : (takeV (evD k 0 false) (43 :: l)).2 = false := by
  unfold takeV takeN
  rw [if_neg h4, if_neg h2, parse_plus]
  rfl
theorem take_c2 (h : 0 ≤ u) (hu : u ≤ 100000000000000) : takeV (evD 1 0 false) (45 :: showW u) = (evD 1 (-u) false, true) := by
  have p := parse_minus h (by omega)
  unfold takeV takeN
  rw [if_neg (by decide), if_neg (by decide), p]
  rfl
theorem take_m2 (h : 0 ≤ u) (hu : u ≤ 100000000000000) : takeV (evD 3 0 false) (45 :: showW u) = (evD 3 (-u) false, decide (u = 0)) := by
  have p := parse_minus h (by omega)
  unfold takeV takeN
  rw [if_neg (by decide), if_neg (by decide), p]
  dsimp only
  congr 1
  by_cases z : u = 0
  · subst z; rfl
  · rw [decide_eq_false z, decide_eq_false (show ¬ 0 ≤ -u by omega)]; rfl
end
theorem parse_on (hW : WF W0) (x : ByteArray) (l : List UInt8) (h : x = bs l) (hl : l.length ≤ 1048576) : PureF (C W0) I.line_Parse [.string x] (.tuple #[evV (parseL l).1, .int .i64 (parseL l).2.1, .int .i64 (parseL l).2.2]) := by
  subst h; exact line_Parse hW l hl
theorem line_at (hW : WF W0) (S a kd : List UInt8) (x y : ByteArray) (hx : x = bs (110 :: 58 :: a)) (hy : y = bs (124 :: kd)) (ha : (124 : UInt8) ∉ a) (hS : (124 : UInt8) ∉ S) (hk : (124 : UInt8) ∉ kd) (hl : a.length + S.length + kd.length ≤ 1000) {e : Ev} {p c : Int}
    (q : (if kindL kd = 0 then (ev0, ((2 + (a ++ S).length + 1 : Nat) : Int), 43) else if (takeV (evD (kindL kd) 0 false) (a ++ S)).2 = true then ((takeV (evD (kindL kd) 0 false) (a ++ S)).1, 0, 0) else (ev0, 2, 42)) = (e, p, c)) :
    PureF (C W0) I.line_Parse [.string (x ++ bs S ++ y)] (.tuple #[evV e, .int .i64 p, .int .i64 c]) := by
  have o := one_val (p0 := a ++ S) (kd := kd) (by simp [ha, hS]) hk (by simp; omega)
  rw [q] at o
  have h := parse_on hW (x ++ bs S ++ y) (110 :: 58 :: (a ++ S ++ 124 :: kd)) (by rw [hx, hy, bs_app, bs_app]; simp) (by simp; omega)
  rw [o] at h
  exact h
end Go.Proofs.YtioahngbfdfcaaaGreatDoor
