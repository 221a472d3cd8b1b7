import Derived.Test.YtioahngbfdfcaaaGreatDoorKLq
set_option linter.unusedVariables false
set_option linter.unusedSimpArgs false
namespace Go.Proofs.YtioahngbfdfcaaaGreatDoor
open Go Go.Den Go.RowKit
variable {W0 : World}
/-! What is read may stand in a line. -/
theorem parseV_range {l : List UInt8} (h : (parseV l).2 = 0) : -1000000000000000 ≤ (parseV l).1 ∧ (parseV l).1 ≤ 1000000000000000 ∧ (heads 45 l = false → 0 ≤ (parseV l).1) := by
  unfold parseV at h ⊢
  cases hd : decOf l with
  | none => rw [hd] at h; simp at h
  | some p =>
    rw [hd] at h
    dsimp only at h ⊢
    by_cases c1 : 6 < p.2.2.length
    · rw [if_pos c1] at h; simp at h
    · rw [if_neg c1] at h ⊢
      by_cases c2 : valOf p.2.1 p.2.2 ≤ 1000000000000000
      · rw [if_pos c2]
        unfold sgv
        refine ⟨by dsimp only; split <;> omega, by dsimp only; split <;> omega, fun hh => ?_⟩
        have p1 : p.1 = false := by
          unfold decOf at hd
          cases l with
          | nil =>
            cases ht : decT (cutm []).1 with
            | none => rw [ht] at hd; simp at hd
            | some q => rw [ht] at hd; simp only [Option.map_some, Option.some.injEq] at hd; rw [← hd]; rfl
          | cons c t =>
            have hc : c ≠ 45 := fun z => by subst z; simp [heads] at hh
            rw [cutm_cons, if_neg hc] at hd
            cases ht : decT (c :: t) with
            | none => rw [ht] at hd; simp at hd
            | some q => rw [ht] at hd; simp only [Option.map_some, Option.some.injEq] at hd; rw [← hd]
        rw [p1]
        dsimp only
        rw [if_neg (by simp)]; omega
      · rw [if_neg c2] at h; simp at h
theorem stampF_range : ∀ (l : List UInt8) (n m : Int), 0 ≤ n → n ≤ 1099511627775 → stampF l n = some m → 0 ≤ m ∧ m ≤ 1099511627775
  | [], n, m, h1, h2, h => by simp only [stampF, Option.some.injEq] at h; omega
  | c :: t, n, m, h1, h2, h => by
    rw [stampF] at h
    by_cases hd : isd c = true
    · rw [if_pos hd] at h
      have hr := isd_yes hd
      by_cases ho : 1099511627775 < 10 * n + ((c.toNat : Int) - 48)
      · rw [if_pos ho] at h; cases h
      · rw [if_neg ho] at h
        exact stampF_range t _ m (by omega) (by omega) h
    · rw [if_neg hd] at h; cases h
theorem stampV_range (l : List UInt8) : 0 ≤ (stampV l).1 ∧ (stampV l).1 ≤ 1099511627775 := by
  unfold stampV
  cases h : stampF l 0 with
  | none => exact ⟨Int.le_refl 0, by show (0 : Int) ≤ 1099511627775; decide⟩
  | some n => exact stampF_range l 0 n (by decide) (by decide) h
/-- What takeN gives. -/
theorem takeN_range {e : Ev} {s : List UInt8} (h : (takeN e s).2 = true) : (parseV s).2 = 0 ∧ (e.kind = 3 → 0 ≤ (parseV s).1 ∧ (parseV s).1 ≤ 100000000000000) := by
  unfold takeN at h
  simp only [Bool.and_eq_true, Bool.or_eq_true, Bool.not_eq_true', decide_eq_true_eq, decide_eq_false_iff_not] at h
  exact ⟨h.1, fun k => h.2.elim (fun z => absurd k z) id⟩
/-- An event whose rate and stamp are not yet read. -/
structure Raw (e : Ev) : Prop where
  name : okName e.name = true
  kind : 1 ≤ e.kind ∧ e.kind ≤ 4
  value : -1000000000000000 ≤ e.value ∧ e.value ≤ 1000000000000000
  delta : e.delta = true → e.kind = 2
  gauge : e.kind = 2 → e.delta = true ∨ 0 ≤ e.value
  timer : e.kind = 3 → 0 ≤ e.value ∧ e.value ≤ 100000000000000
  set : e.kind = 4 → e.value = 0 ∧ memL e.member = true
  member : e.kind ≠ 4 → e.member = []
theorem take_raw {n p : List UInt8} {k : Int} (hn : okName n = true) (hk : 1 ≤ k ∧ k ≤ 4) (h : (takeV (evNew n k) p).2 = true) :
    Raw (takeV (evNew n k) p).1 ∧ (takeV (evNew n k) p).1.rate = 1000000 ∧ (takeV (evNew n k) p).1.timed = false ∧ (takeV (evNew n k) p).1.time = 0 := by
  unfold takeV at h ⊢
  by_cases k4 : k = 4
  · rw [if_pos (show (evNew n k).kind = 4 from k4)] at h ⊢
    refine ⟨⟨hn, hk, ⟨?_, ?_⟩, ?_, ?_, ?_, fun _ => ⟨rfl, h⟩, fun z => absurd k4 z⟩, rfl, rfl, rfl⟩
    · show (-1000000000000000 : Int) ≤ 0; decide
    · show (0 : Int) ≤ 1000000000000000; decide
    · intro z; cases z
    · intro z; have z2 : k = 2 := z; omega
    · intro z; have z2 : k = 3 := z; omega
  · rw [if_neg (show ¬ (evNew n k).kind = 4 from k4)] at h ⊢
    by_cases k2 : k = 2
    · rw [if_pos (show (evNew n k).kind = 2 from k2)] at h ⊢
      by_cases h43 : heads 43 p = true
      · rw [if_pos h43] at h ⊢
        by_cases h45 : heads 45 p.tail = true
        · rw [if_pos h45] at h; cases h
        · rw [if_neg h45] at h ⊢
          have r := takeN_range h
          have q := parseV_range r.1
          exact ⟨⟨hn, hk, ⟨q.1, q.2.1⟩, fun _ => k2, fun _ => .inl rfl, fun z => r.2 z, fun z => absurd z k4, fun _ => rfl⟩, rfl, rfl, rfl⟩
      · rw [if_neg h43] at h ⊢
        have r := takeN_range h
        have q := parseV_range r.1
        refine ⟨⟨hn, hk, ⟨q.1, q.2.1⟩, fun _ => k2, fun _ => ?_, fun z => r.2 z, fun z => absurd z k4, fun _ => rfl⟩, rfl, rfl, rfl⟩
        show heads 45 p = true ∨ 0 ≤ (parseV p).1
        cases h45 : heads 45 p with
        | true => exact .inl rfl
        | false => exact .inr (q.2.2 h45)
    · rw [if_neg (show ¬ (evNew n k).kind = 2 from k2)] at h ⊢
      have r := takeN_range h
      have q := parseV_range r.1
      exact ⟨⟨hn, hk, ⟨q.1, q.2.1⟩, fun z => (by cases z), fun z => absurd z k2, fun z => r.2 z, fun z => absurd z k4, fun _ => rfl⟩, rfl, rfl, rfl⟩
theorem fields_may (s : List UInt8) : ∀ (n : Nat) (e : Ev) (r : Bool) (k : Nat), May e → May (fieldsF n e r s k).1
  | 0, e, r, k, m => m
  | n + 1, e, r, k, m => by
    rw [fieldsF]
    split
    · split
      · split
        · rename_i c
          refine fields_may s n _ _ _ ⟨m.name, m.kind, m.value, m.delta, m.gauge, m.timer, m.set, m.member, ⟨c.2.1, c.2.2.1⟩, fun z => ?_, m.time, m.untimed⟩
          have z2 : mayK e.kind = false := z
          rw [c.2.2.2] at z2; cases z2
        · exact m
      · split
        · split
          · rename_i c
            exact fields_may s n _ _ _ ⟨m.name, m.kind, m.value, m.delta, m.gauge, m.timer, m.set, m.member, m.rate, m.rated, fun _ => stampV_range _, fun z => by cases z⟩
          · exact m
        · exact m
    · exact m
theorem kind_range (l : List UInt8) (h : ¬ kindL l = 0) : 1 ≤ kindL l ∧ kindL l ≤ 4 := by
  unfold kindL at h ⊢
  split
  · decide
  · split
    · decide
    · split
      · decide
      · split
        · decide
        · rename_i a b c d; rw [if_neg a, if_neg b, if_neg c, if_neg d] at h; exact absurd rfl h
theorem parse_may {s : List UInt8} (h : (parseL s).2.2 = 0) : May (parseL s).1 := by
  unfold parseL at h ⊢
  by_cases c1 : 1024 < s.length
  · rw [if_pos c1] at h; simp at h
  · rw [if_neg c1] at h ⊢
    by_cases c2 : (58 : UInt8) ∈ s
    · rw [if_pos c2] at h ⊢
      by_cases c3 : (cleanV (upto 58 s)).2 = true
      · rw [if_pos c3] at h ⊢
        by_cases c4 : at2 s ≤ s.length
        · rw [if_pos c4] at h ⊢
          by_cases c5 : kindL (knd s) = 0
          · rw [if_pos c5] at h; simp at h
          · rw [if_neg c5] at h ⊢
            by_cases c6 : (tvL s).2 = true
            · rw [if_pos c6] at h ⊢
              by_cases c7 : (flL s).2.2 = 0
              · rw [if_pos c7]
                have k := kind_range _ c5
                obtain ⟨w, w1, w2, w3⟩ := take_raw (clean_ok c3) k c6
                refine fields_may s _ _ _ _ ⟨w.name, w.kind, w.value, w.delta, w.gauge, w.timer, w.set, w.member, ?_, fun _ => w1, fun z => ?_, fun _ => w3⟩
                · show 1000 ≤ (takeV (evNew (cleanV (upto 58 s)).1 (kindL (knd s))) (val1 s)).1.rate ∧ (takeV (evNew (cleanV (upto 58 s)).1 (kindL (knd s))) (val1 s)).1.rate ≤ 1000000
                  rw [w1]; decide
                · have z2 : (takeV (evNew (cleanV (upto 58 s)).1 (kindL (knd s))) (val1 s)).1.timed = true := z
                  rw [w2] at z2; cases z2
              · rw [if_neg c7] at h; exact absurd h c7
            · rw [if_neg c6] at h; simp at h
        · rw [if_neg c4] at h; simp at h
      · rw [if_neg c3] at h; simp at h
    · rw [if_neg c2] at h; simp at h
theorem parse_bad {s : List UInt8} (h : (parseL s).2.2 ≠ 0) : (parseL s).1 = ev0 := by
  unfold parseL at h ⊢
  split
  · rfl
  · split
    · split
      · split
        · split
          · rfl
          · split
            · split
              · rename_i a b c d e f g
                rw [if_neg a, if_pos b, if_pos c, if_pos d, if_neg e, if_pos f, if_pos g] at h
                exact absurd rfl h
              · rfl
            · rfl
        · rfl
      · rfl
    · rfl
end Go.Proofs.YtioahngbfdfcaaaGreatDoor
