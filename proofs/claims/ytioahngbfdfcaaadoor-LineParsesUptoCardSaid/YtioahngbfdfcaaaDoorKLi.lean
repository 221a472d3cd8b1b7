import Derived.Test.YtioahngbfdfcaaaDoorKLg
set_option linter.unusedVariables false
set_option linter.unusedSimpArgs false
namespace Go.Proofs.YtioahngbfdfcaaaDoor
open Go Go.Den Go.RowKit
variable {W0 : World}
/-! A line by its parts: what Parse answers of it. -/
/-- Pieces, a bar ahead of each. -/
def barJ (ps : List (List UInt8)) : List UInt8 := ps.flatMap fun p => 124 :: p
theorem barJ_nil : barJ [] = [] := rfl
theorem barJ_cons (p : List UInt8) (ps : List (List UInt8)) : barJ (p :: ps) = 124 :: (p ++ barJ ps) := by simp [barJ]
theorem barJ_app (ps qs : List (List UInt8)) : barJ (ps ++ qs) = barJ ps ++ barJ qs := by simp [barJ]
theorem upto_apz {b : UInt8} : ∀ {p : List UInt8} {r : List UInt8}, b ∉ p → (r = [] ∨ ∃ t, r = b :: t) → upto b (p ++ r) = p
  | [], r, _, hr => by
    rcases hr with rfl | ⟨t, rfl⟩
    · rfl
    · simp [upto]
  | c :: p, r, h, hr => by
    have := upto_apz (p := p) (r := r) (fun z => h (List.mem_cons_of_mem _ z)) hr
    unfold upto at this ⊢
    have hc : c ≠ b := fun z => h (by simp [z])
    simpa [hc] using this
theorem upto_bar {p : List UInt8} (h : (124 : UInt8) ∉ p) (ps : List (List UInt8)) : upto 124 (p ++ barJ ps) = p :=
  upto_apz h (by cases ps with
    | nil => exact .inl rfl
    | cons q qs => exact .inr ⟨_, barJ_cons q qs⟩)
theorem ex_bar : ∀ v : List UInt8, ∃ p vs, v = p ++ barJ vs ∧ (124 : UInt8) ∉ p ∧ ∀ q ∈ vs, (124 : UInt8) ∉ q
  | [] => ⟨[], [], rfl, by simp, by simp⟩
  | c :: v => by
    obtain ⟨p, vs, e, h1, h2⟩ := ex_bar v
    by_cases hc : c = 124
    · refine ⟨[], p :: vs, by rw [barJ_cons, e, hc]; rfl, by simp, fun q hq => ?_⟩
      rcases List.mem_cons.mp hq with rfl | hq
      · exact h1
      · exact h2 q hq
    · exact ⟨c :: p, vs, by rw [e]; rfl, by simp [h1]; exact fun z => hc z.symm, h2⟩
/-- One field. -/
def stepP (e : Ev) (r : Bool) (p : List UInt8) : Ev × Bool × Int :=
  if heads 64 p = true ∧ r = false ∧ e.timed = false then
    (if (parseV p.tail).2 = 0 ∧ 1000 ≤ (parseV p.tail).1 ∧ (parseV p.tail).1 ≤ 1000000 ∧ mayK e.kind = true then ({ e with rate := (parseV p.tail).1 }, true, 0) else (e, r, 44))
  else if heads 84 p = true ∧ e.timed = false then
    (if (stampV p.tail).2 = true then ({ e with timed := true, time := (stampV p.tail).1 }, r, 0) else (e, r, 45))
  else (e, r, 46)
def fieldsP (e : Ev) (r : Bool) (k : Nat) : List (List UInt8) → Ev × Int × Int
  | [] => (e, 0, 0)
  | p :: ps => if (stepP e r p).2.2 = 0 then fieldsP (stepP e r p).1 (stepP e r p).2.1 (k + p.length + 1) ps else (e, (k : Int), (stepP e r p).2.2)
def runP (e : Ev) (r : Bool) : List (List UInt8) → Ev × Bool × Int
  | [] => (e, r, 0)
  | p :: ps => if (stepP e r p).2.2 = 0 then runP (stepP e r p).1 (stepP e r p).2.1 ps else (e, r, (stepP e r p).2.2)
theorem fields_bar : ∀ (ps : List (List UInt8)) (n : Nat) (e : Ev) (r : Bool) (pre : List UInt8), ps.length < n → (∀ p ∈ ps, (124 : UInt8) ∉ p) →
    fieldsF n e r (pre ++ barJ ps) (pre.length + 1) = fieldsP e r (pre.length + 1) ps
  | [], n + 1, e, r, pre, _, _ => by
    rw [fieldsF, if_neg (by simp [barJ])]; rfl
  | p :: ps, n + 1, e, r, pre, hn, hp => by
    have h1 : pieceL (pre ++ barJ (p :: ps)) (pre.length + 1) = p := by
      unfold pieceL
      rw [barJ_cons, List.drop_append]
      simp only [List.drop_eq_nil_of_le (show pre.length ≤ pre.length + 1 by omega), Nat.add_sub_cancel_left, List.nil_append, List.drop_succ_cons, List.drop_zero]
      exact upto_bar (hp p (by simp)) ps
    have h2 : pre.length + 1 ≤ (pre ++ barJ (p :: ps)).length := by rw [barJ_cons]; simp
    have ih := fun e' r' => fields_bar ps n e' r' (pre ++ 124 :: p) (by simp at hn; omega) fun q hq => hp q (List.mem_cons_of_mem _ hq)
    have e1 : pre ++ barJ (p :: ps) = (pre ++ 124 :: p) ++ barJ ps := by rw [barJ_cons]; simp
    have e2 : (pre ++ 124 :: p).length + 1 = pre.length + 1 + p.length + 1 := by simp; omega
    rw [e2] at ih
    rw [fieldsF, if_pos h2, h1, fieldsP]
    unfold stepP
    by_cases c1 : heads 64 p = true ∧ r = false ∧ e.timed = false
    · rw [if_pos c1, if_pos c1]
      by_cases c2 : (parseV p.tail).2 = 0 ∧ 1000 ≤ (parseV p.tail).1 ∧ (parseV p.tail).1 ≤ 1000000 ∧ mayK e.kind = true
      · rw [if_pos c2, if_pos c2, if_pos rfl, e1, ih]
      · rw [if_neg c2, if_neg c2, if_neg (by simp)]
    · rw [if_neg c1, if_neg c1]
      by_cases c2 : heads 84 p = true ∧ e.timed = false
      · rw [if_pos c2, if_pos c2]
        by_cases c3 : (stampV p.tail).2 = true
        · rw [if_pos c3, if_pos c3, if_pos rfl, e1, ih]
        · rw [if_neg c3, if_neg c3, if_neg (by simp)]
      · rw [if_neg c2, if_neg c2, if_neg (by simp)]
theorem fieldsP_ok : ∀ (ps : List (List UInt8)) (e : Ev) (r : Bool) (k : Nat), (fieldsP e r k ps).2.2 = (runP e r ps).2.2 ∧ ((runP e r ps).2.2 = 0 → (fieldsP e r k ps).1 = (runP e r ps).1)
  | [], e, r, k => ⟨rfl, fun _ => rfl⟩
  | p :: ps, e, r, k => by
    rw [fieldsP, runP]
    by_cases h : (stepP e r p).2.2 = 0
    · rw [if_pos h, if_pos h]; exact fieldsP_ok ps _ _ _
    · rw [if_neg h, if_neg h]; exact ⟨rfl, fun z => absurd z h⟩
theorem fieldsP_app : ∀ (ps qs : List (List UInt8)) (e : Ev) (r : Bool) (k : Nat), (runP e r ps).2.2 = 0 →
    fieldsP e r k (ps ++ qs) = fieldsP (runP e r ps).1 (runP e r ps).2.1 (k + (barJ ps).length) qs
  | [], qs, e, r, k, h => rfl
  | p :: ps, qs, e, r, k, h => by
    rw [runP] at h ⊢
    by_cases c : (stepP e r p).2.2 = 0
    · rw [if_pos c] at h ⊢
      rw [List.cons_append, fieldsP, if_pos c, fieldsP_app ps qs _ _ _ h]
      congr 1
      rw [barJ_cons]; simp; omega
    · rw [if_neg c] at h; exact absurd h c
/-- What Parse answers of a line by its parts. -/
def parseP (n p0 kd : List UInt8) (fs : List (List UInt8)) : Ev × Int × Int :=
  if (cleanV n).2 = true then
    (if kindL kd = 0 then (ev0, ((n.length + 1 + p0.length + 1 : Nat) : Int), 43)
    else if (takeV (evNew (cleanV n).1 (kindL kd)) p0).2 = true then
      (if (fieldsP (takeV (evNew (cleanV n).1 (kindL kd)) p0).1 false (n.length + 1 + p0.length + 1 + kd.length + 1) fs).2.2 = 0 then
        ((fieldsP (takeV (evNew (cleanV n).1 (kindL kd)) p0).1 false (n.length + 1 + p0.length + 1 + kd.length + 1) fs).1, 0, 0)
      else (ev0, (fieldsP (takeV (evNew (cleanV n).1 (kindL kd)) p0).1 false (n.length + 1 + p0.length + 1 + kd.length + 1) fs).2))
    else (ev0, ((n.length + 1 : Nat) : Int), 42))
  else (ev0, 0, 41)
theorem parse_join {n p0 kd : List UInt8} {fs : List (List UInt8)} (h1 : (58 : UInt8) ∉ n) (h2 : (124 : UInt8) ∉ p0) (h3 : (124 : UInt8) ∉ kd) (h4 : ∀ p ∈ fs, (124 : UInt8) ∉ p)
    (hl : (n ++ 58 :: (p0 ++ barJ (kd :: fs))).length ≤ 1024) : parseL (n ++ 58 :: (p0 ++ barJ (kd :: fs))) = parseP n p0 kd fs := by
  have hL : (n ++ 58 :: (p0 ++ barJ (kd :: fs))).length = n.length + p0.length + kd.length + (barJ fs).length + 2 := by rw [barJ_cons]; simp; omega
  have u0 : upto 58 (n ++ 58 :: (p0 ++ barJ (kd :: fs))) = n := upto_apz h1 (.inr ⟨_, rfl⟩)
  have a1 : at1 (n ++ 58 :: (p0 ++ barJ (kd :: fs))) = n.length + 1 := by unfold at1; rw [u0]
  have v1 : val1 (n ++ 58 :: (p0 ++ barJ (kd :: fs))) = p0 := by
    unfold val1 pieceL
    rw [a1, List.drop_append]
    simp only [List.drop_eq_nil_of_le (show n.length ≤ n.length + 1 by omega), Nat.add_sub_cancel_left, List.nil_append, List.drop_succ_cons, List.drop_zero]
    exact upto_bar h2 _
  have a2 : at2 (n ++ 58 :: (p0 ++ barJ (kd :: fs))) = n.length + 1 + p0.length + 1 := by unfold at2; rw [a1, v1]
  have k1 : knd (n ++ 58 :: (p0 ++ barJ (kd :: fs))) = kd := by
    unfold knd pieceL
    rw [a2, show n ++ 58 :: (p0 ++ barJ (kd :: fs)) = (n ++ 58 :: (p0 ++ [124])) ++ (kd ++ barJ fs) by rw [barJ_cons]; simp, List.drop_append]
    rw [List.drop_eq_nil_of_le (by simp; omega), show n.length + 1 + p0.length + 1 - (n ++ 58 :: (p0 ++ ([124] : List UInt8))).length = 0 by simp; omega]
    exact upto_bar h3 _
  have a3 : at3 (n ++ 58 :: (p0 ++ barJ (kd :: fs))) = n.length + 1 + p0.length + 1 + kd.length + 1 := by unfold at3; rw [a2, k1]
  have fb : ∀ e, fieldsL e (n ++ 58 :: (p0 ++ barJ (kd :: fs))) (at3 (n ++ 58 :: (p0 ++ barJ (kd :: fs)))) = fieldsP e false (n.length + 1 + p0.length + 1 + kd.length + 1) fs := by
    intro e
    have hlen : ∀ qs : List (List UInt8), qs.length ≤ (barJ qs).length := by
      intro qs
      induction qs with
      | nil => exact Nat.le_refl _
      | cons q qs ih => rw [barJ_cons]; simp; omega
    have hf := hlen fs
    have := fields_bar fs ((n ++ 58 :: (p0 ++ barJ (kd :: fs))).length + 1) e false (n ++ 58 :: (p0 ++ 124 :: kd)) (by omega) h4
    rw [show (n ++ 58 :: (p0 ++ 124 :: kd)) ++ barJ fs = n ++ 58 :: (p0 ++ barJ (kd :: fs)) by rw [barJ_cons]; simp,
      show (n ++ 58 :: (p0 ++ 124 :: kd)).length + 1 = n.length + 1 + p0.length + 1 + kd.length + 1 by simp; omega] at this
    unfold fieldsL
    rw [a3]; exact this
  have e1 : evN (n ++ 58 :: (p0 ++ barJ (kd :: fs))) = evNew (cleanV n).1 (kindL kd) := by unfold evN; rw [u0, k1]
  have e2 : tvL (n ++ 58 :: (p0 ++ barJ (kd :: fs))) = takeV (evNew (cleanV n).1 (kindL kd)) p0 := by unfold tvL; rw [e1, v1]
  have e3 : flL (n ++ 58 :: (p0 ++ barJ (kd :: fs))) = fieldsP (takeV (evNew (cleanV n).1 (kindL kd)) p0).1 false (n.length + 1 + p0.length + 1 + kd.length + 1) fs := by unfold flL; rw [fb, e2]
  unfold parseL parseP
  rw [if_neg (by omega), if_pos (by simp), u0, k1, e2, e3, a2, a1]
  by_cases c1 : (cleanV n).2 = true
  · rw [if_pos c1, if_pos c1, if_pos (by rw [hL]; omega)]
  · rw [if_neg c1, if_neg c1]
/-- A line that is read, and fields behind it. -/
theorem parse_more {n v kd : List UInt8} (h1 : (58 : UInt8) ∉ n) (h3 : (124 : UInt8) ∉ kd) (h : (parseL (n ++ 58 :: (v ++ 124 :: kd))).2.2 = 0) (hl : (n ++ 58 :: (v ++ 124 :: kd)).length ≤ 1024) :
    ∃ r, ∀ qs : List (List UInt8), (∀ p ∈ qs, (124 : UInt8) ∉ p) → (n ++ 58 :: (v ++ 124 :: kd) ++ barJ qs).length ≤ 1024 →
      parseL (n ++ 58 :: (v ++ 124 :: kd) ++ barJ qs) =
        if (fieldsP (parseL (n ++ 58 :: (v ++ 124 :: kd))).1 r ((n ++ 58 :: (v ++ 124 :: kd)).length + 1) qs).2.2 = 0 then ((fieldsP (parseL (n ++ 58 :: (v ++ 124 :: kd))).1 r ((n ++ 58 :: (v ++ 124 :: kd)).length + 1) qs).1, 0, 0)
        else (ev0, (fieldsP (parseL (n ++ 58 :: (v ++ 124 :: kd))).1 r ((n ++ 58 :: (v ++ 124 :: kd)).length + 1) qs).2) := by
  obtain ⟨p0, vs, e, q1, q2⟩ := ex_bar v
  obtain ⟨k, fs, hk⟩ : ∃ k fs, vs ++ [kd] = k :: fs := by cases vs with
    | nil => exact ⟨_, _, rfl⟩
    | cons a b => exact ⟨_, _, rfl⟩
  have hq : ∀ p ∈ k :: fs, (124 : UInt8) ∉ p := by
    rw [← hk]; intro p hp
    rcases List.mem_append.mp hp with hp | hp
    · exact q2 p hp
    · rcases List.mem_singleton.mp hp with rfl; exact h3
  have e1 : n ++ 58 :: (v ++ 124 :: kd) = n ++ 58 :: (p0 ++ barJ (k :: fs)) := by
    rw [← hk, barJ_app, e, barJ_cons]; simp [barJ]
  have hL : (n ++ 58 :: (p0 ++ barJ (k :: fs))).length = n.length + p0.length + k.length + (barJ fs).length + 2 := by rw [barJ_cons]; simp; omega
  have g3 := hq k (by simp)
  have g4 := fun p hp => hq p (List.mem_cons_of_mem _ hp)
  rw [e1] at h hl ⊢
  rw [parse_join h1 q1 g3 g4 hl] at h ⊢
  unfold parseP at h
  by_cases c1 : (cleanV n).2 = true
  · rw [if_pos c1] at h
    by_cases c2 : kindL k = 0
    · rw [if_pos c2] at h; simp at h
    · rw [if_neg c2] at h
      by_cases c3 : (takeV (evNew (cleanV n).1 (kindL k)) p0).2 = true
      · rw [if_pos c3] at h
        have fo := fieldsP_ok fs (takeV (evNew (cleanV n).1 (kindL k)) p0).1 false (n.length + 1 + p0.length + 1 + k.length + 1)
        by_cases c4 : (fieldsP (takeV (evNew (cleanV n).1 (kindL k)) p0).1 false (n.length + 1 + p0.length + 1 + k.length + 1) fs).2.2 = 0
        · have c5 := fo.1 ▸ c4
          have ep : parseP n p0 k fs = ((runP (takeV (evNew (cleanV n).1 (kindL k)) p0).1 false fs).1, 0, 0) := by
            unfold parseP; rw [if_pos c1, if_neg c2, if_pos c3, if_pos c4, fo.2 c5]
          refine ⟨(runP (takeV (evNew (cleanV n).1 (kindL k)) p0).1 false fs).2.1, fun qs hqs hl2 => ?_⟩
          have e2 : n ++ 58 :: (p0 ++ barJ (k :: fs)) ++ barJ qs = n ++ 58 :: (p0 ++ barJ (k :: (fs ++ qs))) := by
            rw [barJ_cons, barJ_cons, barJ_app]; simp
          rw [e2] at hl2 ⊢
          rw [parse_join h1 q1 g3 (fun p hp => (List.mem_append.mp hp).elim (g4 p) (hqs p)) hl2, ep]
          unfold parseP
          rw [if_pos c1, if_neg c2, if_pos c3, fieldsP_app fs qs _ _ _ c5, show n.length + 1 + p0.length + 1 + k.length + 1 + (barJ fs).length = (n ++ 58 :: (p0 ++ barJ (k :: fs))).length + 1 by rw [hL]; omega]
        · exfalso; rw [if_neg c4] at h; exact c4 h
      · exfalso; rw [if_neg c3] at h; simp at h
  · exfalso; rw [if_neg c1] at h; simp at h
theorem heads_of {b c : UInt8} {t : List UInt8} : heads b (c :: t) = decide (c = b) := rfl
section
variable {s x y : List UInt8} {e : Ev} {r : Bool} {k : Nat}
theorem fieldsP_1 {p : List UInt8} : fieldsP e r k [p] = if (stepP e r p).2.2 = 0 then ((stepP e r p).1, 0, 0) else (e, (k : Int), (stepP e r p).2.2) := rfl
theorem fieldsP_2 {p q : List UInt8} (h : (fieldsP e r k [p]).2.2 = 0) (h2 : (stepP (stepP e r p).1 (stepP e r p).2.1 q).2.2 = 46) : (fieldsP e r k [p, q]).2 = (((k + p.length + 1 : Nat) : Int), 46) := by
  rw [fieldsP_1] at h
  by_cases c : (stepP e r p).2.2 = 0
  · rw [fieldsP, if_pos c, fieldsP_1, h2, if_neg (by decide)]
  · rw [if_neg c] at h; exact absurd h c
theorem step_T (h : (stepP e r (84 :: x)).2.2 = 0) : (stepP e r (84 :: x)).1.timed = true := by
  unfold stepP at h ⊢
  rw [if_neg (by rw [heads_of]; simp)] at h ⊢
  by_cases c : heads 84 (84 :: x) = true ∧ e.timed = false
  · rw [if_pos c] at h ⊢
    by_cases c2 : (stampV (84 :: x).tail).2 = true
    · rw [if_pos c2]
    · rw [if_neg c2] at h; simp at h
  · rw [if_neg c] at h; simp at h
theorem step_A (h : (stepP e r (64 :: x)).2.2 = 0) : (stepP e r (64 :: x)).2.1 = true := by
  unfold stepP at h ⊢
  by_cases c : heads 64 (64 :: x) = true ∧ r = false ∧ e.timed = false
  · rw [if_pos c] at h ⊢
    by_cases c2 : (parseV (64 :: x).tail).2 = 0 ∧ 1000 ≤ (parseV (64 :: x).tail).1 ∧ (parseV (64 :: x).tail).1 ≤ 1000000 ∧ mayK e.kind = true
    · rw [if_pos c2]
    · rw [if_neg c2] at h; simp at h
  · rw [if_neg c, if_neg (by rw [heads_of]; simp)] at h; simp at h
theorem step_nil : (stepP e r []).2.2 = 46 := by unfold stepP; rw [if_neg (by simp [heads]), if_neg (by simp [heads])]
theorem step_timed (h : e.timed = true) (p : List UInt8) : (stepP e r p).2.2 = 46 := by unfold stepP; rw [if_neg (by simp [h]), if_neg (by simp [h])]
theorem step_rated (h : r = true) : (stepP e r (64 :: x)).2.2 = 46 := by unfold stepP; rw [if_neg (by simp [h]), if_neg (by rw [heads_of]; simp)]
end
/-- LineOrder's facts. -/
theorem order_is {n v kd rt tm : List UInt8} (h1 : (58 : UInt8) ∉ n) (h3 : (124 : UInt8) ∉ kd) (hr : (124 : UInt8) ∉ rt) (ht : (124 : UInt8) ∉ tm)
    (s : List UInt8) (hs : s = n ++ 58 :: (v ++ 124 :: kd)) (h : (parseL s).2.2 = 0) (hl : s.length + 2 * rt.length + 2 * tm.length + 4 ≤ 1024) :
    (parseL (s ++ [124])).2 = (((s.length + 1 : Nat) : Int), 46) ∧
    ((parseL (s ++ 124 :: 84 :: tm)).2.2 = 0 → (parseL ((s ++ 124 :: 84 :: tm) ++ 124 :: 84 :: tm)).2 = ((((s ++ 124 :: 84 :: tm).length + 1 : Nat) : Int), 46) ∧ (parseL ((s ++ 124 :: 84 :: tm) ++ 124 :: 64 :: rt)).2 = ((((s ++ 124 :: 84 :: tm).length + 1 : Nat) : Int), 46)) ∧
    ((parseL (s ++ 124 :: 64 :: rt)).2.2 = 0 → (parseL ((s ++ 124 :: 64 :: rt) ++ 124 :: 64 :: rt)).2 = ((((s ++ 124 :: 64 :: rt).length + 1 : Nat) : Int), 46)) := by
  subst hs
  obtain ⟨r, hm⟩ := parse_more h1 h3 h (by omega)
  generalize n ++ 58 :: (v ++ 124 :: kd) = s at *
  have b1 : ∀ p : List UInt8, barJ [p] = 124 :: p := fun p => by simp [barJ]
  have b2 : ∀ p q : List UInt8, barJ [p, q] = (124 :: p) ++ 124 :: q := fun p q => by simp [barJ]
  have nr : (124 : UInt8) ∉ (64 : UInt8) :: rt := by simp [hr]
  have nt : (124 : UInt8) ∉ (84 : UInt8) :: tm := by simp [ht]
  have two : ∀ p q : List UInt8, (124 : UInt8) ∉ p → (124 : UInt8) ∉ q → s.length + p.length + q.length + 2 ≤ 1024 → (parseL (s ++ 124 :: p)).2.2 = 0 →
      (∀ e', (stepP e' r p).2.2 = 0 → (stepP (stepP e' r p).1 (stepP e' r p).2.1 q).2.2 = 46) →
      (parseL ((s ++ 124 :: p) ++ 124 :: q)).2 = ((((s ++ 124 :: p).length + 1 : Nat) : Int), 46) := by
    intro p q hp hq hpl hz hst
    have g1 := hm [p] (by simp [hp]) (by rw [b1]; simp; omega)
    rw [b1] at g1
    have g2 := hm [p, q] (by simp [hp, hq]) (by rw [b2]; simp; omega)
    rw [b2, ← List.append_assoc] at g2
    rw [g1] at hz
    by_cases c : (fieldsP (parseL s).1 r (s.length + 1) [p]).2.2 = 0
    · have c2 : (stepP (parseL s).1 r p).2.2 = 0 := by
        rw [fieldsP_1] at c
        by_cases d : (stepP (parseL s).1 r p).2.2 = 0
        · exact d
        · rw [if_neg d] at c; exact c
      have := fieldsP_2 c (hst _ c2)
      rw [g2, if_neg (by rw [this]; simp), this]
      simp; omega
    · rw [if_neg c] at hz; exact absurd hz c
  refine ⟨?_, fun hz => ⟨?_, ?_⟩, fun hz => ?_⟩
  · have g1 := hm [[]] (by simp) (by rw [b1]; simp; omega)
    rw [b1] at g1
    rw [g1, fieldsP_1, step_nil]; rfl
  · exact two _ _ nt nt (by simp; omega) hz fun e' h' => step_timed (step_T h') _
  · exact two _ _ nt nr (by simp; omega) hz fun e' h' => step_timed (step_T h') _
  · exact two _ _ nr nr (by simp; omega) hz fun e' h' => step_rated (step_A h')
end Go.Proofs.YtioahngbfdfcaaaDoor
