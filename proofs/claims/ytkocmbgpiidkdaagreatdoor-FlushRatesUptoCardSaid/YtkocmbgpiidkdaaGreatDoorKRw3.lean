/- Rows of numbers and of texts that came in. -/
import Derived.Test.YtkocmbgpiidkdaaGreatDoorKRow0
import Derived.Test.YtkocmbgpiidkdaaGreatDoorKGa
import Derived.Test.YtkocmbgpiidkdaaGreatDoorDenB
import Derived.SliceStrings
set_option linter.unusedVariables false
set_option linter.unusedSimpArgs false
namespace Go.Proofs.YtkocmbgpiidkdaaGreatDoor
open Go Go.Den Go.RowKit
theorem wv_of {h l : Int} (hh : Hi h) (hl : U l) : Value.agg #[.int .i64 h, .int .u64 l] = wv (h * 18446744073709551616 + l) ∧ R (h * 18446744073709551616 + l) := by
  unfold Hi U at *
  refine ⟨ag2 (by omega) (by omega), by unfold R; omega⟩
/-- All rows of the first world. -/
def imW (W : World) (b : Nat) : Option (Array Value) := match W.heap[b]? with
  | some (.cells a _ _) => some a
  | _ => none
theorem im_at (W : World) (b : Nat) (a : Array Value) (e : imW W b = some a) : ∃ t fr, W.heap[b]? = some (.cells a t fr) := by
  unfold imW at e
  split at e
  · rename_i c t fr h
    cases e
    exact ⟨t, fr, h⟩
  · cases e
def rhoW (W : World) : Ren := ⟨fun _ => none, imW W⟩
theorem rel_W (W : World) : Rel W (rhoW W) [] W :=
  ⟨fun i l b hi _ => (nomatch hi), fun i l hi => (nomatch hi), fun i j l m b c hi => (nomatch hi), Below.refl _ _, fun i l hi => (nomatch hi), fun i l hi => (nomatch hi), fun i b hb => (nomatch hb), im_at W, fun i l b hi => (nomatch hi)⟩
theorem row_vals {W : World} {a : Addr} {len cap : Nat} {cs : List Value} (hl : len ≤ cap) (hlen : cs.length = len) (hc : ∀ (i : Nat) (v : Value), cs[i]? = some v → W.cell? (a.add i) = some v ∧ AF v) : VRel (rhoW W) (LV cs len) (.slice (some a) len cap) := by
  by_cases z : len = 0
  · subst z; exact .lst0 _ _ _
  · obtain ⟨ab, ao, asp⟩ := a
    have h0 : cs[0]? = some cs[0] := List.getElem?_eq_getElem (by omega)
    have c0 := (hc 0 _ h0).1
    simp only [Addr.add, if_true] at c0
    unfold World.cell? at c0
    dsimp only at c0
    split at c0
    · rename_i c ct fr hblk
      cases asp with
      | some s => simp at c0
      | none =>
        have cell : ∀ k : Nat, W.cell? ⟨ab, ao + k, none⟩ = c[ao + k]? := fun k => by unfold World.cell?; dsimp only; rw [hblk]; rfl
        have ad : ∀ k : Nat, (Addr.add ⟨ab, ao, none⟩ k) = ⟨ab, ao + k, none⟩ := fun k => by
          unfold Addr.add
          split <;> simp_all
        have at0 : ∀ (i : Nat) (v : Value), cs[i]? = some v → c[ao + i]? = some v ∧ AF v := fun i v h => by
          have := hc i v h
          rw [ad, cell] at this
          exact this
        have him : (rhoW W).im ab = some c := by show imW W ab = some c; unfold imW; rw [hblk]
        have hlast : ∃ v, cs[len - 1]? = some v := ⟨_, List.getElem?_eq_getElem (by omega)⟩
        obtain ⟨v, hv⟩ := hlast
        have hsz := (Array.getElem?_eq_some_iff.mp (at0 _ _ hv).1).1
        refine VRel.lst _ _ c _ _ _ him (by simp only [List.size_toArray]; omega) hl ?_
        intro k u u' hk hk'
        rw [List.getElem?_toArray] at hk
        obtain ⟨e1, e2⟩ := at0 k u hk
        rw [e1] at hk'; cases hk'
        exact e2.rel _
    · cases c0
section
open Go.Joins Go.ChangeShapes Go.WideShapes Go.RowKit Go.Deep
variable {H : Type} {enc : TypeId × Value → H} {P : Program} {w : World} {base : Nat} {spare : Nat → Bool} {held : Bool}
theorem row_ints {t e : TypeId} {fuel : Nat} {u : Value} {x : DataW H × List MemPlace} (ht : P.underlying t = some (.slice e)) (he : P.underlying e = some (.int .i64)) (hc : P.cellsOf e = 1)
    (h : DataW.trod enc P w base spare held fuel t [u] = some x) : ∃ us : List Int, VRel (rhoW w) (LV (icells us) us.length) u ∧ (us.length = 0 ∨ ∃ el sp, x.1 = .slice el sp ∧ us.length ≤ el.length) := by
  rcases open_ints ht he hc h with ⟨h1, _⟩ | ⟨a, len, cap, zs, h1, _, hl, _, hz, hx, hcell, _⟩
  · cases h1
    exact ⟨[], .lst0 _ _ _, .inl rfl⟩
  · cases h1
    have hzl : len ≤ zs.length := by rw [hz]; split <;> omega
    have hlen : (zs.take len).length = len := by rw [List.length_take]; omega
    refine ⟨zs.take len, ?_, .inr ⟨lits .i64 (zs.take len), lits .i64 (zs.drop len), by rw [hx], by unfold lits; rw [List.length_map]; exact Nat.le_refl _⟩⟩
    rw [hlen]
    refine row_vals hl (by unfold icells; rw [List.length_map, hlen]) fun i v hv => ?_
    unfold icells at hv
    rw [List.getElem?_map] at hv
    cases hi : (zs.take len)[i]? with
    | none => rw [hi] at hv; cases hv
    | some n =>
      rw [hi] at hv; cases hv
      obtain ⟨hi1, hi2⟩ := List.getElem?_eq_some_iff.mp hi
      refine ⟨?_, .int _ _⟩
      rw [hcell i (by omega)]
      rw [List.getElem_take] at hi2
      simp only [List.getD_eq_getElem?_getD, List.getElem?_eq_getElem (show i < zs.length by omega), Option.getD_some, hi2]
theorem row_strs {t e : TypeId} {fuel : Nat} {u : Value} {x : DataW H × List MemPlace} (ht : P.underlying t = some (.slice e)) (he : P.underlying e = some .string) (hc : P.cellsOf e = 1)
    (h : DataW.trod enc P w base spare held fuel t [u] = some x) : ∃ us : List ByteArray, VRel (rhoW w) (LV (us.map .string) us.length) u ∧ (us.length = 0 ∨ ∃ el sp, x.1 = .slice el sp ∧ us.length ≤ el.length) := by
  rcases open_strings ht he hc h with ⟨h1, _⟩ | ⟨a, len, cap, zs, h1, _, hl, _, hz, hx, hcell, _⟩
  · cases h1
    exact ⟨[], .lst0 _ _ _, .inl rfl⟩
  · cases h1
    have hzl : len ≤ zs.length := by rw [hz]; split <;> omega
    have hlen : (zs.take len).length = len := by rw [List.length_take]; omega
    refine ⟨zs.take len, ?_, .inr ⟨strs (zs.take len), strs (zs.drop len), by rw [hx], by unfold strs; rw [List.length_map]; exact Nat.le_refl _⟩⟩
    rw [hlen]
    refine row_vals hl (by rw [List.length_map, hlen]) fun i v hv => ?_
    rw [List.getElem?_map] at hv
    cases hi : (zs.take len)[i]? with
    | none => rw [hi] at hv; cases hv
    | some n =>
      rw [hi] at hv; cases hv
      obtain ⟨hi1, hi2⟩ := List.getElem?_eq_some_iff.mp hi
      refine ⟨?_, .string _⟩
      rw [hcell i (by omega)]
      rw [List.getElem_take] at hi2
      simp only [List.getD_eq_getElem?_getD, List.getElem?_eq_getElem (show i < zs.length by omega), Option.getD_some, hi2]
end
theorem rel_3 {ρ : Ren} {a b c a' b' c' : Value} (h1 : VRel ρ a a') (h2 : VRel ρ b b') (h3 : VRel ρ c c') : VRel ρ (.agg #[a, b, c]) (.agg #[a', b', c']) :=
  .agg _ _ rfl fun i u u' hu hu' => by
    match i with
    | 0 => simp at hu hu'; subst hu; subst hu'; exact h1
    | 1 => simp at hu hu'; subst hu; subst hu'; exact h2
    | 2 => simp at hu hu'; subst hu; subst hu'; exact h3
    | i + 3 => simp at hu
end Go.Proofs.YtkocmbgpiidkdaaGreatDoor
