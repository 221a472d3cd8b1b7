import Derived.Test.YtioahngbfdfcaaaGreatDoorKLp
set_option linter.unusedVariables false
set_option linter.unusedSimpArgs false
namespace Go.Proofs.YtioahngbfdfcaaaGreatDoor
open Go Go.Den Go.RowKit
variable {W0 : World}
/-! What is printed, and read again. -/
def valT (e : Ev) : List UInt8 := if e.kind = 4 then e.member else if e.delta = true ∧ 0 ≤ e.value then 43 :: showW e.value else showW e.value
def rateT (e : Ev) : List (List UInt8) := if e.rate = 1000000 then [] else [64 :: showW e.rate]
def timeT (e : Ev) : List (List UInt8) := if e.timed = true then [84 :: Lib.itoa e.time] else []
def printV (e : Ev) : List UInt8 := e.name ++ 58 :: (valT e ++ barJ (letE e.kind :: (rateT e ++ timeT e)))
theorem stampF_val : ∀ (l : List UInt8) (n : Nat), (∀ c ∈ l, 48 ≤ c.toNat ∧ c.toNat ≤ 57) → l.foldl (fun n c => n * 10 + (c.toNat - 48)) n ≤ 1099511627775 → stampF l (n : Int) = some ((l.foldl (fun n c => n * 10 + (c.toNat - 48)) n : Nat) : Int)
  | [], n, _, _ => rfl
  | c :: t, n, hd, hv => by
    have hc := hd c (by simp)
    have e : 10 * (n : Int) + ((c.toNat : Int) - 48) = ((n * 10 + (c.toNat - 48) : Nat) : Int) := by omega
    rw [List.foldl_cons] at hv ⊢
    have hb : n * 10 + (c.toNat - 48) ≤ t.foldl (fun n c => n * 10 + (c.toNat - 48)) (n * 10 + (c.toNat - 48)) := by
      rw [foldv]
      have : n * 10 + (c.toNat - 48) ≤ (n * 10 + (c.toNat - 48)) * 10 ^ t.length := Nat.le_mul_of_pos_right _ (Nat.pow_pos (by decide))
      omega
    rw [stampF, if_pos (isd_of hc), e, if_neg (by omega)]
    exact stampF_val t _ (fun x hx => hd x (List.mem_cons_of_mem _ hx)) hv
theorem stamp_show {t : Int} (h0 : 0 ≤ t) (h1 : t ≤ 1099511627775) : stampV (Lib.itoa t) = (t, true) := by
  have e : Lib.itoa t = Lib.decDigits t.toNat := by unfold Lib.itoa; rw [if_neg (by omega)]
  have v : (Lib.decDigits t.toNat).foldl (fun n c => n * 10 + (c.toNat - 48)) 0 = t.toNat := decVal_dec t.toNat
  have s := stampF_val (Lib.decDigits t.toNat) 0 (dec_digit _) (by rw [v]; omega)
  rw [v] at s
  have ne : Lib.decDigits t.toNat ≠ [] := fun h => by have := dec_pos t.toNat; rw [h] at this; simp at this
  unfold stampV
  rw [e, show (0 : Int) = ((0 : Nat) : Int) from rfl, s]
  dsimp only
  rw [decide_eq_true ne]
  congr 1; omega
theorem itoa_not {t : Int} (h0 : 0 ≤ t) : (124 : UInt8) ∉ Lib.itoa t := by
  have e : Lib.itoa t = Lib.decDigits t.toNat := by unfold Lib.itoa; rw [if_neg (by omega)]
  rw [e]; intro h
  exact absurd (dec_digit _ _ h).2 (by decide)
theorem itoa_len {t : Int} (h0 : 0 ≤ t) (h1 : t ≤ 1099511627775) : (Lib.itoa t).length ≤ 20 := by
  have e : Lib.itoa t = Lib.decDigits t.toNat := by unfold Lib.itoa; rw [if_neg (by omega)]
  rw [e]
  exact dec_len (k := 19) (by rw [show (10 : Nat) ^ (19 + 1) = 100000000000000000000 by decide]; omega)
theorem mem_bar {l : List UInt8} (h : memL l = true) : (124 : UInt8) ∉ l ∧ l.length ≤ 100 := by
  unfold memL at h
  simp only [Bool.and_eq_true, List.all_eq_true, decide_eq_true_eq] at h
  refine ⟨fun hm => ?_, h.2.2⟩
  have := h.1 124 hm
  revert this
  decide
theorem let_E (k : Int) : (124 : UInt8) ∉ letE k ∧ (letE k).length ≤ 2 := by unfold letE; split <;> (try split) <;> (try split) <;> decide
theorem kind_E {k : Int} (h : 1 ≤ k ∧ k ≤ 4) : kindL (letE k) = k := by
  rcases (by omega : k = 1 ∨ k = 2 ∨ k = 3 ∨ k = 4) with rfl | rfl | rfl | rfl <;> rfl
theorem head_neg {v : Int} (h : v < 0) : ∃ t, showW v = 45 :: t := by unfold showW; rw [if_pos h]; exact ⟨_, rfl⟩
theorem takeN_ok {e : Ev} {s : List UInt8} {v : Int} (p : parseV s = (v, 0)) (h : e.kind = 3 → 0 ≤ v ∧ v ≤ 100000000000000) : takeN e s = ({ e with value := v }, true) := by
  unfold takeN
  rw [p]
  dsimp only
  congr 1
  by_cases k3 : e.kind = 3
  · rw [decide_eq_true k3, decide_eq_true (h k3).1, decide_eq_true (h k3).2]; rfl
  · rw [decide_eq_false k3]; rfl
theorem take_val {e : Ev} (m : May e) : takeV (evNew e.name e.kind) (valT e) = (⟨e.name, e.kind, e.value, e.delta, e.member, 1000000, false, 0⟩, true) := by
  have p := parseV_show e.value
  rw [if_pos (by have := m.value; omega)] at p
  unfold takeV valT
  by_cases k4 : e.kind = 4
  · rw [if_pos k4, if_pos (show (evNew e.name e.kind).kind = 4 from k4), (m.set k4).2, (m.set k4).1]
    have d : e.delta = false := by
      cases h : e.delta with
      | false => rfl
      | true => have := m.delta h; omega
    rw [d]; rfl
  · rw [if_neg k4, if_neg (show ¬ (evNew e.name e.kind).kind = 4 from k4), m.member k4]
    by_cases k2 : e.kind = 2
    · rw [if_pos (show (evNew e.name e.kind).kind = 2 from k2)]
      have kk : decide (e.kind = 3) = false := decide_eq_false (by omega)
      by_cases hd : e.delta = true ∧ 0 ≤ e.value
      · obtain ⟨c, t, es, g1, g2⟩ := show_head hd.2
        have n2 : heads 45 (showW e.value) = false := by rw [es]; exact decide_eq_false fun z => by subst z; exact absurd g1 (by decide)
        rw [if_pos hd, if_pos (show heads 43 ((43 : UInt8) :: showW e.value) = true from rfl), List.tail_cons, n2, if_neg (by simp)]
        rw [takeN_ok p (fun z => by have z2 : e.kind = 3 := z; omega), hd.1]; rfl
      · rw [if_neg hd]
        have hb : heads 43 (showW e.value) = false ∧ heads 45 (showW e.value) = e.delta := by
          by_cases hv : e.value < 0
          · obtain ⟨t, es⟩ := head_neg hv
            rw [es]
            rcases m.gauge k2 with h | h
            · rw [h]; exact ⟨rfl, rfl⟩
            · omega
          · obtain ⟨c, t, es, g1, g2⟩ := show_head (v := e.value) (by omega)
            have d : e.delta = false := by
              cases h : e.delta with
              | false => rfl
              | true => exact absurd ⟨h, by omega⟩ hd
            rw [es, d]
            exact ⟨decide_eq_false fun z => by subst z; exact absurd g1 (by decide), decide_eq_false fun z => by subst z; exact absurd g1 (by decide)⟩
        rw [hb.1, hb.2, if_neg (by simp)]
        rw [takeN_ok p (fun z => by have z2 : e.kind = 3 := z; omega)]; rfl
    · rw [if_neg (show ¬ (evNew e.name e.kind).kind = 2 from k2)]
      have d : e.delta = false := by
        cases h : e.delta with
        | false => rfl
        | true => exact absurd (m.delta h) k2
      rw [if_neg (fun h => by rw [d] at h; exact absurd h.1 (by simp)), d]
      rw [takeN_ok (e := evNew e.name e.kind) p (fun z => m.timer z)]; rfl
theorem val_bar {e : Ev} (m : May e) : (124 : UInt8) ∉ valT e ∧ (valT e).length ≤ 101 := by
  have l := show_len e.value (by have := m.value; omega)
  have s := show_bar e.value
  unfold valT
  split
  · rename_i k4
    have := mem_bar (m.set k4).2
    exact ⟨this.1, by omega⟩
  · split
    · exact ⟨by simp [s], by simp; omega⟩
    · exact ⟨s, by omega⟩
theorem step_rate_ok {e : Ev} (ht : e.timed = false) {v : Int} (hv : 1000 ≤ v ∧ v ≤ 1000000) (hm : mayK e.kind = true) : stepP e false (64 :: showW v) = ({ e with rate := v }, true, 0) := by
  have p := parseV_show v
  rw [if_pos (by omega)] at p
  unfold stepP
  rw [if_pos ⟨rfl, rfl, ht⟩, List.tail_cons, p, if_pos ⟨rfl, hv.1, hv.2, hm⟩]
theorem step_time_ok {e : Ev} (ht : e.timed = false) (r : Bool) {t : Int} (h0 : 0 ≤ t) (h1 : t ≤ 1099511627775) : stepP e r (84 :: Lib.itoa t) = ({ e with timed := true, time := t }, r, 0) := by
  have p := stamp_show h0 h1
  unfold stepP
  rw [if_neg (by rw [heads_of]; simp), if_pos ⟨rfl, ht⟩, List.tail_cons, p, if_pos rfl]
theorem run_time {e f : Ev} (m : May e) (ht : f.timed = false) (h0 : f.time = 0) (r : Bool) : runP f r (timeT e) = ({ f with timed := e.timed, time := e.time }, r, 0) := by
  unfold timeT
  cases h : e.timed with
  | true =>
    have b := m.time h
    rw [if_pos rfl, runP, step_time_ok ht r b.1 b.2, if_pos rfl]; rfl
  | false =>
    have b := m.untimed h
    rw [if_neg (by simp), runP, b]
    obtain ⟨a1, a2, a3, a4, a5, a6, a7, a8⟩ := f
    dsimp only at ht h0
    subst ht; subst h0; rfl
theorem runP_app : ∀ (ps qs : List (List UInt8)) (e : Ev) (r : Bool), (runP e r ps).2.2 = 0 → runP e r (ps ++ qs) = runP (runP e r ps).1 (runP e r ps).2.1 qs
  | [], qs, e, r, h => rfl
  | p :: ps, qs, e, r, h => by
    rw [runP] at h ⊢
    by_cases c : (stepP e r p).2.2 = 0
    · rw [if_pos c] at h ⊢
      rw [List.cons_append, runP, if_pos c, runP_app ps qs _ _ h]
    · rw [if_neg c] at h; exact absurd h c
theorem run_all {e : Ev} (m : May e) : ∃ r, runP ⟨e.name, e.kind, e.value, e.delta, e.member, 1000000, false, 0⟩ false (rateT e ++ timeT e) = (e, r, 0) := by
  unfold rateT
  by_cases hr : e.rate = 1000000
  · rw [if_pos hr, List.nil_append]
    refine ⟨false, ?_⟩
    rw [run_time m rfl rfl, ← hr]
  · have hm : mayK e.kind = true := by
      cases h : mayK e.kind with
      | true => rfl
      | false => exact absurd (m.rated h) hr
    have s := step_rate_ok (e := ⟨e.name, e.kind, e.value, e.delta, e.member, 1000000, false, 0⟩) rfl m.rate hm
    refine ⟨true, ?_⟩
    rw [if_neg hr, List.singleton_append, runP, s, if_pos rfl, run_time m rfl rfl]
theorem print_parse {e : Ev} (m : May e) : parseL (printV e) = (e, 0, 0) ∧ (printV e).length ≤ 1024 := by
  have lv := val_bar m
  have le := let_E e.kind
  have nl := okName_len m.name
  have n58 : (58 : UInt8) ∉ e.name := fun h => by
    rcases okName_bytes m.name _ h with g | g
    · exact absurd g (by decide)
    · exact absurd g (by decide)
  have rl := show_len e.rate (by have := m.rate; omega)
  have fl : (∀ p ∈ rateT e ++ timeT e, (124 : UInt8) ∉ p) ∧ (barJ (rateT e ++ timeT e)).length ≤ 130 := by
    have a : (∀ p ∈ rateT e, (124 : UInt8) ∉ p) ∧ (barJ (rateT e)).length ≤ 102 := by
      unfold rateT
      split
      · exact ⟨by simp, by simp [barJ]⟩
      · exact ⟨by simp [show_bar], by simp [barJ]; omega⟩
    have b : (∀ p ∈ timeT e, (124 : UInt8) ∉ p) ∧ (barJ (timeT e)).length ≤ 22 := by
      unfold timeT
      split
      · rename_i h
        have t := m.time h
        have := itoa_len t.1 t.2
        exact ⟨by simp [itoa_not t.1], by simp [barJ]; omega⟩
      · exact ⟨by simp, by simp [barJ]⟩
    exact ⟨fun p hp => (List.mem_append.mp hp).elim (a.1 p) (b.1 p), by rw [barJ_app, List.length_append]; omega⟩
  have L : (printV e).length ≤ 1024 := by
    unfold printV
    rw [barJ_cons]
    simp only [List.length_append, List.length_cons]
    omega
  refine ⟨?_, L⟩
  unfold printV at L ⊢
  rw [parse_join n58 lv.1 le.1 fl.1 L]
  have c := clean_self m.name
  have tv := take_val m
  obtain ⟨r, ra⟩ := run_all m
  unfold parseP
  rw [c, if_pos rfl, kind_E m.kind, if_neg (by have := m.kind; omega), tv, if_pos rfl]
  have fo := fun k => fieldsP_ok (rateT e ++ timeT e) ⟨e.name, e.kind, e.value, e.delta, e.member, 1000000, false, 0⟩ false k
  rw [ra] at fo
  dsimp only at fo ⊢
  rw [if_pos (fo _).1, (fo _).2 rfl]
end Go.Proofs.YtioahngbfdfcaaaGreatDoor
