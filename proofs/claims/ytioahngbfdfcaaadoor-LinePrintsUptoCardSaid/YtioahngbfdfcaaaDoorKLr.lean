import Derived.Test.YtioahngbfdfcaaaDoorKWp
import Derived.Test.YtioahngbfdfcaaaDoorKLi
import Derived.Test.YtioahngbfdfcaaaDoorKLf
set_option linter.unusedVariables false
set_option linter.unusedSimpArgs false
namespace Go.Proofs.YtioahngbfdfcaaaDoor
open Go Go.Den Go.RowKit
variable {W0 : World}
/-! LineDeltas -/
theorem show_bytes (v : Int) : ∀ c ∈ showW v, c = 45 ∨ c = 46 ∨ (48 ≤ c.toNat ∧ c.toNat ≤ 57) := by
  intro c hc
  unfold showW at hc
  rcases List.mem_append.mp hc with hc | hc
  · split at hc
    · exact .inl (by simpa using hc)
    · cases hc
  · rcases List.mem_append.mp hc with hc | hc
    · exact .inr (.inr (dec_digit _ c hc))
    · unfold frac at hc
      split at hc
      · cases hc
      · rcases List.mem_cons.mp hc with hc | hc
        · exact .inr (.inl hc)
        · exact .inr (.inr (pad_dig _ _ c (stripz_sub _ c hc)))
theorem show_not (v : Int) {b : UInt8} (h1 : b ≠ 45) (h2 : b ≠ 46) (h3 : ¬ (48 ≤ b.toNat ∧ b.toNat ≤ 57)) : b ∉ showW v := fun h => by
  rcases show_bytes v b h with g | g | g
  · exact h1 g
  · exact h2 g
  · exact h3 g
theorem show_bar (v : Int) : (124 : UInt8) ∉ showW v := show_not v (by decide) (by decide) (by decide)
/-- A number that is not below 0: it begins with a digit. -/
theorem show_head {v : Int} (h : 0 ≤ v) : ∃ c t, showW v = c :: t ∧ 48 ≤ c.toNat ∧ c.toNat ≤ 57 := by
  unfold showW
  rw [if_neg (by omega), List.nil_append]
  cases hd : Lib.decDigits (v.natAbs / 1000000) with
  | nil => have := dec_pos (v.natAbs / 1000000); rw [hd] at this; simp at this
  | cons c t =>
    have := dec_digit (v.natAbs / 1000000) c (by rw [hd]; simp)
    exact ⟨c, _, rfl, this⟩
theorem parse_minus {v : Int} (h : 0 ≤ v) (hv : v ≤ 1000000000000000) : parseV (45 :: showW v) = (-v, 0) := by
  have e := decT_show (v.natAbs / 1000000) (v.natAbs % 1000000) (Nat.mod_lt _ (by decide))
  have w := val_show v
  have l := tail6_len (v.natAbs % 1000000) (Nat.mod_lt _ (by decide))
  have es : showW v = Lib.decDigits (v.natAbs / 1000000) ++ frac (v.natAbs % 1000000) := by unfold showW; rw [if_neg (by omega), List.nil_append]
  unfold parseV decOf
  rw [cutm_cons, if_pos rfl, es, e]
  dsimp only [Option.map]
  rw [if_neg (by omega), w, if_pos (by omega)]
  unfold sgv
  rw [if_pos rfl]
  congr 1; omega
theorem parse_plus (l : List UInt8) : (parseV (43 :: l)).2 = 20 := by
  unfold parseV decOf
  rw [cutm_cons, if_neg (by decide)]
  rfl
abbrev evD (k v : Int) (d : Bool) : Ev := ⟨[110], k, v, d, [], 1000000, false, 0⟩
theorem one_val {p0 kd : List UInt8} (h2 : (124 : UInt8) ∉ p0) (h3 : (124 : UInt8) ∉ kd) (hl : p0.length + kd.length ≤ 1000) :
    parseL (110 :: 58 :: (p0 ++ 124 :: kd)) = if kindL kd = 0 then (ev0, ((2 + p0.length + 1 : Nat) : Int), 43) else if (takeV (evD (kindL kd) 0 false) p0).2 = true then ((takeV (evD (kindL kd) 0 false) p0).1, 0, 0) else (ev0, 2, 42) := by
  have j := parse_join (n := [110]) (p0 := p0) (kd := kd) (fs := []) (by decide) h2 h3 (by simp) (by simp [barJ]; omega)
  have e : ([110] : List UInt8) ++ 58 :: (p0 ++ barJ [kd]) = 110 :: 58 :: (p0 ++ 124 :: kd) := by simp [barJ]
  rw [e] at j
  rw [j]
  have c : cleanV [110] = ([110], true) := by decide +kernel
  unfold parseP
  rw [c, if_pos rfl]
  rfl
section
variable {u : Int}
theorem take_g0 (h : 0 ≤ u) (hu : u ≤ 100000000000000) : takeV (evD 2 0 false) (showW u) = (evD 2 u false, true) := by
  obtain ⟨c, t, e, h1, h2⟩ := show_head h
  have p := parseV_show u
  rw [if_pos (by omega)] at p
  have n1 : heads 43 (showW u) = false := by rw [e]; exact decide_eq_false fun z => by subst z; exact absurd h1 (by decide)
  have n2 : heads 45 (showW u) = false := by rw [e]; exact decide_eq_false fun z => by subst z; exact absurd h1 (by decide)
  unfold takeV takeN
  rw [if_neg (by decide), if_pos rfl, n1, n2, p]
  rfl
theorem take_g1 (h : 0 ≤ u) (hu : u ≤ 100000000000000) : takeV (evD 2 0 false) (43 :: showW u) = (evD 2 u true, true) := by
  obtain ⟨c, t, e, h1, h2⟩ := show_head h
  have p := parseV_show u
  rw [if_pos (by omega)] at p
  have n2 : heads 45 (showW u) = false := by rw [e]; exact decide_eq_false fun z => by subst z; exact absurd h1 (by decide)
  unfold takeV takeN
  rw [if_neg (by decide), if_pos rfl, if_pos (show heads 43 ((43 : UInt8) :: showW u) = true from rfl), List.tail_cons, n2, p]
  rfl
theorem take_g2 (h : 0 ≤ u) (hu : u ≤ 100000000000000) : takeV (evD 2 0 false) (45 :: showW u) = (evD 2 (-u) true, true) := by
  have p := parse_minus h (by omega)
  unfold takeV takeN
  rw [if_neg (by decide), if_pos rfl, show heads 43 ((45 : UInt8) :: showW u) = false from rfl, p]
  rfl
theorem take_plus {k : Int} (h2 : k ≠ 2) (h4 : k ≠ 4) (l : List UInt8) : (takeV (evD k 0 false) (43 :: l)).2 = false := by
  unfold takeV takeN
  rw [if_neg h4, if_neg h2, parse_plus]
  rfl
theorem take_c2 (h : 0 ≤ u) (hu : u ≤ 100000000000000) : takeV (evD 1 0 false) (45 :: showW u) = (evD 1 (-u) false, true) := by
  have p := parse_minus h (by omega)
  unfold takeV takeN
  rw [if_neg (by decide), if_neg (by decide), p]
  rfl
theorem take_m2 (h : 0 ≤ u) (hu : u ≤ 100000000000000) : takeV (evD 3 0 false) (45 :: showW u) = (evD 3 (-u) false, decide (u = 0)) := by
  have p := parse_minus h (by omega)
  unfold takeV takeN
  rw [if_neg (by decide), if_neg (by decide), p]
  dsimp only
  congr 1
  by_cases z : u = 0
  · subst z; rfl
  · rw [decide_eq_false z, decide_eq_false (show ¬ 0 ≤ -u by omega)]; rfl
end
theorem parse_on (hW : WF W0) (x : ByteArray) (l : List UInt8) (h : x = bs l) (hl : l.length ≤ 1048576) : PureF (C W0) I.line_Parse [.string x] (.tuple #[evV (parseL l).1, .int .i64 (parseL l).2.1, .int .i64 (parseL l).2.2]) := by
  subst h; exact line_Parse hW l hl
theorem line_at (hW : WF W0) (S a kd : List UInt8) (x y : ByteArray) (hx : x = bs (110 :: 58 :: a)) (hy : y = bs (124 :: kd)) (ha : (124 : UInt8) ∉ a) (hS : (124 : UInt8) ∉ S) (hk : (124 : UInt8) ∉ kd) (hl : a.length + S.length + kd.length ≤ 1000) {e : Ev} {p c : Int}
    (q : (if kindL kd = 0 then (ev0, ((2 + (a ++ S).length + 1 : Nat) : Int), 43) else if (takeV (evD (kindL kd) 0 false) (a ++ S)).2 = true then ((takeV (evD (kindL kd) 0 false) (a ++ S)).1, 0, 0) else (ev0, 2, 42)) = (e, p, c)) :
    PureF (C W0) I.line_Parse [.string (x ++ bs S ++ y)] (.tuple #[evV e, .int .i64 p, .int .i64 c]) := by
  have o := one_val (p0 := a ++ S) (kd := kd) (by simp [ha, hS]) hk (by simp; omega)
  rw [q] at o
  have h := parse_on hW (x ++ bs S ++ y) (110 :: 58 :: (a ++ S ++ 124 :: kd)) (by rw [hx, hy, bs_app, bs_app]; simp) (by simp; omega)
  rw [o] at h
  exact h
attribute [local irreducible] showW
set_option maxRecDepth 20000 in
set_option maxHeartbeats 16000000 in
theorem lineDeltas (hW : WF W0) (hT : Tens W0) (v : Int) (hv : Hi v) : PureF (C W0) I.tumblerlaw04_LineDeltas [.int .i64 v] (.bool true) := by
  unfold Hi at hv
  refine PureF.E (CallP.of_body (C_ok W0) B.tumblerlaw04_LineDeltas rfl rfl rfl ?_)
  obtain ⟨u, hu⟩ : ∃ u : Int, u = (if v < 0 then -(v + 1) else v) % 100000000000001 := ⟨_, rfl⟩
  have h0 : 0 ≤ u := by omega
  have h1 : u ≤ 100000000000000 := by omega
  have sb := show_bar u
  have sl := show_len u (by omega)
  have sz := bs_size (showW u)
  have w2 : IntKind.i64.wrap (0 - u) = -u := by rw [wrap_in (by omega)]; omega
  have mp := micro_Print (W0 := W0) hT u (by unfold Hi; omega)
  have t0 := take_g0 h0 h1
  have t1 := take_g1 h0 h1
  have t2 := take_g2 h0 h1
  have t3 := take_c2 h0 h1
  have t4 := take_m2 h0 h1
  have t5 := take_plus (k := 1) (by decide) (by decide) (showW u)
  have t6 := take_plus (k := 3) (by decide) (by decide) (showW u)
  generalize showW u = S at *
  have d1 := line_at hW S [] [103] ⟨#[110, 58]⟩ ⟨#[124, 103]⟩ rfl rfl (by decide) sb (by decide) (by simp; omega) (e := evD 2 u false) (p := 0) (c := 0) (by rw [if_neg (by decide), List.nil_append, show kindL [103] = 2 from rfl, t0]; rfl)
  have d2 := line_at hW S [43] [103] ⟨#[110, 58, 43]⟩ ⟨#[124, 103]⟩ rfl rfl (by decide) sb (by decide) (by simp; omega) (e := evD 2 u true) (p := 0) (c := 0) (by rw [if_neg (by decide), List.singleton_append, show kindL [103] = 2 from rfl, t1]; rfl)
  have d3 := line_at hW S [45] [103] ⟨#[110, 58, 45]⟩ ⟨#[124, 103]⟩ rfl rfl (by decide) sb (by decide) (by simp; omega) (e := evD 2 (-u) true) (p := 0) (c := 0) (by rw [if_neg (by decide), List.singleton_append, show kindL [103] = 2 from rfl, t2]; rfl)
  have d4 := line_at hW S [43] [99] ⟨#[110, 58, 43]⟩ ⟨#[124, 99]⟩ rfl rfl (by decide) sb (by decide) (by simp; omega) (e := ev0) (p := 2) (c := 42) (by rw [if_neg (by decide), List.singleton_append, show kindL [99] = 1 from rfl, t5]; rfl)
  have d5 := line_at hW S [45] [99] ⟨#[110, 58, 45]⟩ ⟨#[124, 99]⟩ rfl rfl (by decide) sb (by decide) (by simp; omega) (e := evD 1 (-u) false) (p := 0) (c := 0) (by rw [if_neg (by decide), List.singleton_append, show kindL [99] = 1 from rfl, t3]; rfl)
  have d6 := line_at hW S [43] [109, 115] ⟨#[110, 58, 43]⟩ ⟨#[124, 109, 115]⟩ rfl rfl (by decide) sb (by decide) (by simp; omega) (e := ev0) (p := 2) (c := 42) (by rw [if_neg (by decide), List.singleton_append, show kindL [109, 115] = 3 from rfl, t6]; rfl)
  have z2 : (⟨#[110, 58]⟩ : ByteArray).size = 2 := rfl
  have z3 : (⟨#[110, 58, 43]⟩ : ByteArray).size = 3 := rfl
  have z4 : (⟨#[110, 58, 45]⟩ : ByteArray).size = 3 := rfl
  have z5 : (⟨#[124, 103]⟩ : ByteArray).size = 2 := rfl
  have z6 : (⟨#[124, 99]⟩ : ByteArray).size = 2 := rfl
  have z7 : (⟨#[124, 109, 115]⟩ : ByteArray).size = 3 := rfl
  by_cases hz : u = 0
  · have d7 := line_at hW S [45] [109, 115] ⟨#[110, 58, 45]⟩ ⟨#[124, 109, 115]⟩ rfl rfl (by decide) sb (by decide) (by simp; omega) (e := evD 3 (-u) false) (p := 0) (c := 0) (by rw [if_neg (by decide), List.singleton_append, show kindL [109, 115] = 3 from rfl, t4, if_pos (decide_eq_true hz)])
    by_cases c : v < 0
    · have e1 : (IntKind.i64.wrap (0 - IntKind.i64.wrap (v + 1))).tmod 100000000000001 = u := by
        rw [show IntKind.i64.wrap (v + 1) = v + 1 from wrap_in (by omega), wrap_in (by omega), Int.tmod_eq_emod_of_nonneg (by omega), hu, if_pos c]; omega
      clear t0 t1 t2 t3 t4 t5 t6 hu
      repeat' first
        | refine brP.tD rfl ?_
        | refine brP.tD w2.symm ?_
        | refine brP.tD (by omega) ?_
        | rw [e1]
        | refine (mp).call ?_
        | refine (d1).call ?_
        | refine (d2).call ?_
        | refine (d3).call ?_
        | refine (d4).call ?_
        | refine (d5).call ?_
        | refine (d6).call ?_
        | refine (d7).call ?_
        | refine ⟨by (try simp only [ByteArray.size_append]); omega, ?_⟩
        | (apply Here.norm; (first | dsimp only [Env.putR, argEnv, pure1, newPtr, applyE, hset, List.length_cons, List.length_nil, List.length_append, List.set, List.cons_append, List.nil_append] | rfl); (first | dsimp only [Env.putR, argEnv, pure1, newPtr, applyE, hset, List.length_cons, List.length_nil, List.length_append, List.set, List.cons_append, List.nil_append] | rfl))
        | refine ⟨_, _, _, _, _, rfl, rfl, rfl, Fits.mk (by first | exact Nat.le_of_ble_eq_true rfl | (dsimp only; omega)), rfl, ?_⟩
        | refine ⟨_, _, _, _, _, rfl, _, rfl, ?_⟩
        | refine ⟨NzB.mk (by first | decide | omega), ?_⟩
        | refine ⟨by decide, ?_⟩
        | refine ⟨_, rfl, ?_⟩
        | fail
      exact congrArg Value.bool (by simp [hz])
    · have e1 : v.tmod 100000000000001 = u := by rw [Int.tmod_eq_emod_of_nonneg (by omega), hu, if_neg c]
      clear t0 t1 t2 t3 t4 t5 t6 hu
      repeat' first
        | refine brP.tD rfl ?_
        | refine brP.tD w2.symm ?_
        | refine brP.fD (by omega) ?_
        | rw [e1]
        | refine (mp).call ?_
        | refine (d1).call ?_
        | refine (d2).call ?_
        | refine (d3).call ?_
        | refine (d4).call ?_
        | refine (d5).call ?_
        | refine (d6).call ?_
        | refine (d7).call ?_
        | refine ⟨by (try simp only [ByteArray.size_append]); omega, ?_⟩
        | (apply Here.norm; (first | dsimp only [Env.putR, argEnv, pure1, newPtr, applyE, hset, List.length_cons, List.length_nil, List.length_append, List.set, List.cons_append, List.nil_append] | rfl); (first | dsimp only [Env.putR, argEnv, pure1, newPtr, applyE, hset, List.length_cons, List.length_nil, List.length_append, List.set, List.cons_append, List.nil_append] | rfl))
        | refine ⟨_, _, _, _, _, rfl, rfl, rfl, Fits.mk (by first | exact Nat.le_of_ble_eq_true rfl | (dsimp only; omega)), rfl, ?_⟩
        | refine ⟨_, _, _, _, _, rfl, _, rfl, ?_⟩
        | refine ⟨NzB.mk (by first | decide | omega), ?_⟩
        | refine ⟨by decide, ?_⟩
        | refine ⟨_, rfl, ?_⟩
        | fail
      exact congrArg Value.bool (by simp [hz])
  · have d7 := line_at hW S [45] [109, 115] ⟨#[110, 58, 45]⟩ ⟨#[124, 109, 115]⟩ rfl rfl (by decide) sb (by decide) (by simp; omega) (e := ev0) (p := 2) (c := 42) (by rw [if_neg (by decide), List.singleton_append, show kindL [109, 115] = 3 from rfl, t4, if_neg (by simpa using hz)])
    by_cases c : v < 0
    · have e1 : (IntKind.i64.wrap (0 - IntKind.i64.wrap (v + 1))).tmod 100000000000001 = u := by
        rw [show IntKind.i64.wrap (v + 1) = v + 1 from wrap_in (by omega), wrap_in (by omega), Int.tmod_eq_emod_of_nonneg (by omega), hu, if_pos c]; omega
      clear t0 t1 t2 t3 t4 t5 t6 hu
      repeat' first
        | refine brP.tD rfl ?_
        | refine brP.tD w2.symm ?_
        | refine brP.tD (by omega) ?_
        | rw [e1]
        | refine (mp).call ?_
        | refine (d1).call ?_
        | refine (d2).call ?_
        | refine (d3).call ?_
        | refine (d4).call ?_
        | refine (d5).call ?_
        | refine (d6).call ?_
        | refine (d7).call ?_
        | refine ⟨by (try simp only [ByteArray.size_append]); omega, ?_⟩
        | (apply Here.norm; (first | dsimp only [Env.putR, argEnv, pure1, newPtr, applyE, hset, List.length_cons, List.length_nil, List.length_append, List.set, List.cons_append, List.nil_append] | rfl); (first | dsimp only [Env.putR, argEnv, pure1, newPtr, applyE, hset, List.length_cons, List.length_nil, List.length_append, List.set, List.cons_append, List.nil_append] | rfl))
        | refine ⟨_, _, _, _, _, rfl, rfl, rfl, Fits.mk (by first | exact Nat.le_of_ble_eq_true rfl | (dsimp only; omega)), rfl, ?_⟩
        | refine ⟨_, _, _, _, _, rfl, _, rfl, ?_⟩
        | refine ⟨NzB.mk (by first | decide | omega), ?_⟩
        | refine ⟨by decide, ?_⟩
        | refine ⟨_, rfl, ?_⟩
        | fail
      exact congrArg Value.bool (by simp [hz])
    · have e1 : v.tmod 100000000000001 = u := by rw [Int.tmod_eq_emod_of_nonneg (by omega), hu, if_neg c]
      clear t0 t1 t2 t3 t4 t5 t6 hu
      repeat' first
        | refine brP.tD rfl ?_
        | refine brP.tD w2.symm ?_
        | refine brP.fD (by omega) ?_
        | rw [e1]
        | refine (mp).call ?_
        | refine (d1).call ?_
        | refine (d2).call ?_
        | refine (d3).call ?_
        | refine (d4).call ?_
        | refine (d5).call ?_
        | refine (d6).call ?_
        | refine (d7).call ?_
        | refine ⟨by (try simp only [ByteArray.size_append]); omega, ?_⟩
        | (apply Here.norm; (first | dsimp only [Env.putR, argEnv, pure1, newPtr, applyE, hset, List.length_cons, List.length_nil, List.length_append, List.set, List.cons_append, List.nil_append] | rfl); (first | dsimp only [Env.putR, argEnv, pure1, newPtr, applyE, hset, List.length_cons, List.length_nil, List.length_append, List.set, List.cons_append, List.nil_append] | rfl))
        | refine ⟨_, _, _, _, _, rfl, rfl, rfl, Fits.mk (by first | exact Nat.le_of_ble_eq_true rfl | (dsimp only; omega)), rfl, ?_⟩
        | refine ⟨_, _, _, _, _, rfl, _, rfl, ?_⟩
        | refine ⟨NzB.mk (by first | decide | omega), ?_⟩
        | refine ⟨by decide, ?_⟩
        | refine ⟨_, rfl, ?_⟩
        | fail
      exact congrArg Value.bool (by simp [hz])
end Go.Proofs.YtioahngbfdfcaaaDoor
