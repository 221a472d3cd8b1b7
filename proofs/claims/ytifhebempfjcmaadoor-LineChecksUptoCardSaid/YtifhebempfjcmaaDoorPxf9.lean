-- Printed by this session's own pp.py (wip/tool) out of the translation.
import Derived.Test.YtifhebempfjcmaaDoorPx0
import Derived.Test.YtifhebempfjcmaaDoorPxf32
import Derived.Test.YtifhebempfjcmaaDoorPxf27
import Derived.Test.YtifhebempfjcmaaDoorPxf19
namespace Go.Proofs.YtifhebempfjcmaaDoor.P
open Go.RowKit Go.Proofs.YtifhebempfjcmaaDoorW.PrintWords Go.Proofs.YtifhebempfjcmaaDoorW.PrintLast Go.Proofs.YtifhebempfjcmaaDoorW.PrintMore Go.Proofs.YtifhebempfjcmaaDoor.Mine
attribute [local go_sem] max2_int min2_int max_two min_two max_three min_three max_four min_four   -- for this text's walks alone
set_option linter.unusedVariables false
set_option linter.unusedSimpArgs false

/-! ### name_Valid: function 9 -/
/-- A name byte. -/
def nb (c : Int) : Bool := decide (48 ≤ c ∧ c ≤ 57) || decide (65 ≤ c ∧ c ≤ 90) || decide (97 ≤ c ∧ c ≤ 122) || decide (c = 95) || decide (c = 45)
/-- Name bytes alone, from a place on. -/
def okFrom (s : ByteArray) : Nat → Nat → Bool
  | 0, _ => true
  | n + 1, i => nb (bt s i) && okFrom s n (i + 1)
def okBytes (s : ByteArray) : Bool := okFrom s s.size 0
def dotB : ByteArray := ⟨#[46]⟩
def pieces (s : ByteArray) : List ByteArray := Lib.splitB dotB 0 (Lib.countB s dotB) s
def okPiece (p : ByteArray) : Bool := !p.toList.isEmpty && okBytes p
def name_Valid.f (a0 : ByteArray) : Option (Bool) := if a0.size < 4294967281 then some (decide (a0.size ≤ 200) && decide ((pieces a0).length ≤ 16) && (pieces a0).all okPiece) else none
theorem namely_is (c : Int) (k : Nat) : name_namely.f (k + 3) c = some (nb c) := by
  unfold name_namely.f name_sort.f
  by_cases h1 : c ≥ 48 <;> by_cases h2 : c ≤ 57 <;> by_cases h3 : c ≥ 65 <;> by_cases h4 : c ≤ 90 <;> by_cases h5 : c ≥ 97 <;> by_cases h6 : c ≤ 122 <;> by_cases h7 : c = 95 <;> by_cases h8 : c = 45 <;> first | omega | simp [name_sort.j0, name_sort.j1, nb, h1, h2, h3, h4, h5, h6, h7, h8] <;> omega
theorem bytes_from (s : ByteArray) (hs : s.size < 4611686018427387904) : ∀ (n i k : Nat), i + n = s.size → name_bytes.l0 (k + n + 4) s (s.size : Int) i = some (okFrom s n i) := by
  intro n
  induction n with
  | zero =>
    intro i k h
    have e : i = s.size := by omega
    subst e
    simp [name_bytes.l0, okFrom]
  | succ n ih =>
    intro i k h
    have c1 : (i : Int) < (s.size : Int) := by omega
    have c2 : (0 : Int) ≤ i := by omega
    have e : k + (n + 1) + 4 = (k + n + 4) + 1 := by omega
    rw [e, name_bytes.l0, if_pos c1, if_pos c2, if_pos c1, show k + n + 4 = (k + n + 1) + 3 by omega, namely_is]
    simp only [Option.bind_some, okFrom]
    cases nb (bt s i) with
    | false => rfl
    | true =>
      have e2 : wrap64 ((i : Int) + 1) = ((i + 1 : Nat) : Int) := by
        unfold wrap64; omega
      rw [e2, show k + n + 1 + 3 = k + n + 4 by omega, ih (i + 1) k (by omega)]
      rfl
theorem bytes_is (s : ByteArray) (hs : s.size < 4611686018427387904) (k : Nat) : name_bytes.f (k + s.size + 4) s = some (okBytes s) := bytes_from s hs s.size 0 k (by omega)
theorem splitB_small (sep : ByteArray) (save : Nat) (B : Nat) : ∀ (k : Nat) (s : ByteArray), s.size ≤ B → ∀ p ∈ Lib.splitB sep save k s, p.size ≤ B := by
  intro k
  induction k with
  | zero => intro s h p hp; rw [Lib.splitB_zero] at hp; simp at hp; subst hp; exact h
  | succ k ih =>
    intro s h p hp
    unfold Lib.splitB at hp
    split at hp
    · simp at hp; subst hp; exact h
    · rcases List.mem_cons.1 hp with rfl | hp
      · simp; omega
      · refine ih _ ?_ p hp
        simp; omega
theorem any_range {α : Type} (l : List α) (d : α) (p : α → Bool) : ((List.range l.length).take l.length).any (fun i => p (l.getD i d)) = l.any p := by
  rw [List.take_of_length_le (by simp)]
  apply Bool.eq_iff_iff.2
  simp only [List.any_eq_true, List.mem_range]
  constructor
  · rintro ⟨i, hi, h⟩
    rw [List.getD_eq_getElem?_getD, List.getElem?_eq_getElem hi] at h
    exact ⟨_, List.getElem_mem hi, h⟩
  · rintro ⟨x, hx, h⟩
    obtain ⟨i, hi, rfl⟩ := List.getElem_of_mem hx
    exact ⟨i, hi, by rw [List.getD_eq_getElem?_getD, List.getElem?_eq_getElem hi]; exact h⟩
theorem closureV (s : ByteArray) (hs : s.size < 4294967281) (w : World) : Calls Tryd.prog 18 #[.string s] w fun e w' => e = .returned (.bool (!okPiece s)) ∧ ∃ q, w' = w.drewN q := by
  have hb := name_bytes.calls (0 + s.size + 4) s (okBytes s) w (bytes_is s (by omega) 0)
  go_enter Tryd.func18, Tryd.ntmps18
  go_wp2_with (go_at_call 19; refine hb.mono ?_; rintro e w' ⟨rfl, ⟨q, rfl⟩⟩)
  all_goals (try go_ret)
  all_goals first | exact ⟨by simp [okPiece, *], 0, rfl⟩ | exact ⟨by simp [okPiece, *], _, rfl⟩
theorem name_Valid.calls (a0 : ByteArray) (r : Bool) (w : World) (hT : Aside0 (WF w)) (h : name_Valid.f a0 = some r) :
    Calls Tryd.prog 9 #[.string a0] w fun e w' => e = .returned (.bool r) ∧ Below w.heap.size w w' := by
  unfold name_Valid.f at h
  by_cases hs : a0.size < 4294967281
  · rw [if_pos hs] at h
    obtain rfl := Option.some.inj h
    obtain ⟨m, hm⟩ := hT.out
    have c1 := Tryd.strings_Split a0 dotB m w hs hm (by decide)
    have hl : (pieces a0).length = Lib.countB a0 dotB + 1 := Lib.splitB_all dotB (by decide) 0 _ a0 rfl
    have hle := Lib.countB_le dotB (by decide) a0.size a0 (Nat.le_refl _)
    have hsm := splitB_small dotB 0 a0.size (Lib.countB a0 dotB) a0 (Nat.le_refl _)
    rw [← hl] at c1
    change Calls Tryd.prog 16 #[.string a0, .string (⟨#[46]⟩ : ByteArray)] w fun e w' => e = _ ∧ w' = w.alloc (.cells ((pieces a0).map Value.string).toArray 9) at c1
    change ∀ p ∈ pieces a0, p.size ≤ a0.size at hsm
    generalize pieces a0 = l at c1 hl hsm ⊢
    have eg : ∀ args w, (callFunc 18 args).run Tryd.prog w = .ok (.enter 18 args) w := enters_of Tryd.func18 (by kernel_rfl) rfl
    have c2 := Tryd.slices_ContainsFunc (fun i : Nat => Value.string (l.getD i ByteArray.empty)) (fun i => !okPiece (l.getD i ByteArray.empty)) 18 #[] eg w.heap.size 0 l.length l.length (List.range l.length) (w.alloc (.cells (l.map Value.string).toArray 9))
      (fun W x _ => closureV _ (by
        by_cases hx : x < l.length
        · have := hsm _ (List.getElem_mem hx)
          rw [List.getD_eq_getElem?_getD, List.getElem?_eq_getElem hx]
          exact Nat.lt_of_le_of_lt this hs
        · rw [List.getD_eq_getElem?_getD, List.getElem?_eq_none (by omega)]; decide) W) (by simp) (by omega)
      (fun j hj => by
        have hj' : j < l.length := by simpa using hj
        have e1 : (List.range l.length)[j]! = j := by rw [getElem!_pos _ j hj, List.getElem_range]
        rw [e1, Nat.zero_add]
        simp [hj'])
    rw [any_range l ByteArray.empty (fun p => !okPiece p)] at c2
    have e3 : l.all okPiece = !(l.any fun p => !okPiece p) := by rw [List.not_any_eq_all_not]; simp
    rw [e3]
    generalize (l.any fun p => !okPiece p) = b at c2 ⊢
    clear hm hle hsm hl
    by_cases h1 : a0.size ≤ 200
    · have g1 : ¬ (200 : Int) < (a0.size : Int) := by omega
      have g1' : decide ((200 : Int) < (a0.size : Int)) = false := decide_eq_false g1
      by_cases h2 : l.length ≤ 16
      · have g2 : ¬ (16 : Int) < (l.length : Int) := by omega
        have g2' : decide ((16 : Int) < (l.length : Int)) = false := decide_eq_false g2
        simp only [h1, h2, decide_true, Bool.true_and]
        go_enter Tryd.func9, Tryd.ntmps9
        go_wp2_with (go_at_call 16; refine c1.mono ?_; rintro e w' ⟨rfl, rfl⟩)
        go_wp2_with (go_at_call 17; refine c2.mono ?_; rintro e w' ⟨rfl, q, rfl⟩)
        go_ret
        exact ⟨rfl, below_drewN' ((Below.refl _ w).alloc (Nat.le_refl _) _) q⟩
      · have g2 : (16 : Int) < (l.length : Int) := by omega
        have g2' : decide ((16 : Int) < (l.length : Int)) = true := decide_eq_true g2
        simp only [h1, h2, decide_true, decide_false, Bool.true_and, Bool.false_and]
        go_enter Tryd.func9, Tryd.ntmps9
        go_wp2_with (go_at_call 16; refine c1.mono ?_; rintro e w' ⟨rfl, rfl⟩)
        go_ret
        exact ⟨rfl, (Below.refl _ w).alloc (Nat.le_refl _) _⟩
    · have g1 : (200 : Int) < (a0.size : Int) := by omega
      have g1' : decide ((200 : Int) < (a0.size : Int)) = true := decide_eq_true g1
      simp only [h1, decide_false, Bool.false_and]
      go_enter Tryd.func9, Tryd.ntmps9
      go_wp2_with (go_at_call 16; refine c1.mono ?_; rintro e w' ⟨rfl, rfl⟩)
      go_ret
      exact ⟨rfl, (Below.refl _ w).alloc (Nat.le_refl _) _⟩
  · rw [if_neg hs] at h; cases h

end Go.Proofs.YtifhebempfjcmaaDoor.P
