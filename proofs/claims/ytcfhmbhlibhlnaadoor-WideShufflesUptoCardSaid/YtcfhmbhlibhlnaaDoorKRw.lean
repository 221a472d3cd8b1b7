/- A list of wide numbers that came in. -/
import Derived.Test.YtcfhmbhlibhlnaaDoorKRow0
import Derived.Test.YtcfhmbhlibhlnaaDoorKWs
import Derived.Test.YtcfhmbhlibhlnaaDoorDenB
set_option linter.unusedVariables false
set_option linter.unusedSimpArgs false
namespace Go.Proofs.YtcfhmbhlibhlnaaDoor
open Go Go.Den Go.RowKit
theorem wcells_get : ∀ (us : List Int) (k : Nat) (u : Value), (wcells us)[k]? = some u → ∃ (i : Nat) (v : Int), us[i]? = some v ∧ ((k = 2 * i ∧ u = .int .i64 (v / 18446744073709551616)) ∨ (k = 2 * i + 1 ∧ u = .int .u64 (v % 18446744073709551616)))
  | [], k, u, h => by cases h
  | v :: r, 0, u, h => ⟨0, v, rfl, .inl ⟨rfl, by cases h; rfl⟩⟩
  | v :: r, 1, u, h => ⟨0, v, rfl, .inr ⟨rfl, by cases h; rfl⟩⟩
  | v :: r, k + 2, u, h => by
    obtain ⟨i, x, hi, q⟩ := wcells_get r k u h
    exact ⟨i + 1, x, hi, by
      rcases q with ⟨h1, h2⟩ | ⟨h1, h2⟩
      · exact .inl ⟨by omega, h2⟩
      · exact .inr ⟨by omega, h2⟩⟩
theorem list_of {Q : Nat → Int → Prop} : ∀ n : Nat, (∀ i, i < n → ∃ u, Q i u) → ∃ us : List Int, us.length = n ∧ ∀ i u, us[i]? = some u → Q i u
  | 0, _ => ⟨[], rfl, fun i u h => by cases h⟩
  | n + 1, h => by
    obtain ⟨us, hl, hq⟩ := list_of n fun i hi => h i (by omega)
    obtain ⟨u, hu⟩ := h n (by omega)
    refine ⟨us ++ [u], by simp [hl], fun i x hx => ?_⟩
    by_cases hi : i < n
    · rw [List.getElem?_append_left (by omega)] at hx; exact hq i x hx
    · rw [List.getElem?_append_right (by omega)] at hx
      have : i - us.length = 0 := by
        have := (List.getElem?_eq_some_iff.mp hx).1
        simp at this; omega
      rw [this] at hx
      simp at hx
      subst hx
      rwa [show i = n by omega]
/-- What is known of a row of wide numbers that lies in the first world. -/
structure Came (W : World) (ρ : Ren) (us : List Int) (v : Value) : Prop where
  rel : Rel W ρ [] W
  val : VRel ρ (LV (wcells us) us.length) v
  ran : ∀ u ∈ us, R u
  len : us.length < 9223372036854775808
theorem rel_im {W : World} (im : Nat → Option (Array Value)) (h : ∀ b a, im b = some a → ∃ t fr, W.heap[b]? = some (.cells a t fr)) : Rel W ⟨fun _ => none, im⟩ [] W :=
  ⟨fun i l b hi _ => (nomatch hi), fun i l hi => (nomatch hi), fun i j l m b c hi => (nomatch hi), Below.refl _ _, fun i l hi => (nomatch hi), fun i l hi => (nomatch hi), fun i b hb => (nomatch hb), fun b a e => h b a e, fun i l b hi => (nomatch hi)⟩
section
open Go.Joins Go.ChangeShapes Go.WideShapes Go.RowKit Go.Deep
variable {H : Type} {enc : TypeId × Value → H} {P : Program} {w : World} {base : Nat} {spare : Nat → Bool} {held : Bool}
theorem open_wides {r : Reach} {b0 : Nat} {t e : TypeId} {f0 f1 : Field} {v : Value} {d : DataW H} {p : List MemPlace} (ht : P.underlying t = some (.slice e)) (he : P.underlying e = some (.struct #[f0, f1]))
    (ho0 : f0.offset = 0) (ho1 : f1.offset = 1) (hc : P.cellsOf e = 2) (hc0 : P.cellsOf f0.type = 1) (hc1 : P.cellsOf f1.type = 1) (hi0 : P.underlying f0.type = some (.int .i64)) (hi1 : P.underlying f1.type = some (.int .u64))
    (hv : Value.okWide P w r b0 t v) (h : DataW.Trod enc P w base spare held t v d p) : ∃ (ρ : Ren) (us : List Int), Came w ρ us v ∧ (us.length = 0 ∨ ∃ el sp, d = .slice el sp ∧ us.length ≤ el.length) := by
  obtain ⟨a0, len0, cap0, rfl⟩ := okWide_slice ht hv
  obtain ⟨fuel, hf⟩ := h
  have nilc : ∀ (q : Option Addr) (c : Nat), ∃ (ρ : Ren) (us : List Int), Came w ρ us (.slice q 0 c) ∧ (us.length = 0 ∨ ∃ el sp, d = .slice el sp ∧ us.length ≤ el.length) := fun q c =>
    ⟨⟨fun _ => none, fun _ => none⟩, [], ⟨rel_im _ (fun b a z => by cases z), .lst0 _ _ _, (fun u hu => nomatch hu), by decide⟩, .inl rfl⟩
  rcases DataW.trod_slice ht hf with ⟨hcs, _⟩ | ⟨a, len, cap, elems, rest, n, _, hcs, hxd, hb, hl, hm, hlen, hel, hsp, hns⟩
  · simp [Value.cells] at hcs
    obtain ⟨rfl, rfl, rfl⟩ := hcs
    exact nilc _ _
  · simp [Value.cells] at hcs
    obtain ⟨rfl, rfl, rfl⟩ := hcs
    have each : ∀ i, i < len0 → ∃ u, R u ∧ w.cell? ((a.add (i * 2)).add 0) = some (.int .i64 (u / 18446744073709551616)) ∧ w.cell? ((a.add (i * 2)).add 1) = some (.int .u64 (u % 18446744073709551616)) := by
      intro i hi
      have h1 := hel i hi
      rw [hc, List.getElem?_eq_getElem (by omega), Option.bind_eq_some_iff] at h1
      obtain ⟨cs, h2, h3⟩ := h1
      obtain ⟨_, h4, h5⟩ := World.cells?_some h2
      obtain ⟨xs, m, _, _, h6, h7, h8⟩ := DataW.trod_struct he h3
      have hx : xs.length = 2 := h7
      have g0 := h8 0 f0 rfl
      have g1 := h8 1 f1 rfl
      rw [ho0, hc0, List.getElem?_eq_getElem (by omega)] at g0
      rw [ho1, hc1, List.getElem?_eq_getElem (by omega)] at g1
      obtain ⟨n0, k0, _, w0⟩ := DataW.trod_int hi0 g0
      obtain ⟨n1, k1, _, w1⟩ := DataW.trod_int hi1 g1
      match cs, h4 with
      | [x, y], _ =>
        simp at k0 k1
        subst k0; subst k1
        have hh := Mine.wf_i64 w0
        have hu := Mine.wf_u64 w1
        unfold Hi at hh
        unfold U at hu
        refine ⟨n0 * 18446744073709551616 + n1, by unfold R; omega, ?_, ?_⟩
        · rw [h5 0 (by decide), show (n0 * 18446744073709551616 + n1) / 18446744073709551616 = n0 by omega]; rfl
        · rw [h5 1 (by decide), show (n0 * 18446744073709551616 + n1) % 18446744073709551616 = n1 by omega]; rfl
    obtain ⟨us, hlu, hq⟩ := list_of len0 each
    by_cases z : len0 = 0
    · subst z; exact nilc _ _
    · obtain ⟨ab, ao, asp⟩ := a
      obtain ⟨u0, hu0⟩ : ∃ u, us[0]? = some u := ⟨us[0], by simp [show 0 < us.length by omega]⟩
      have c0 := (hq 0 u0 hu0).2.1
      have hadd : ∀ k : Nat, (Addr.add ⟨ab, ao, asp⟩ k).block = ab := fun k => by unfold Addr.add; split <;> rfl
      simp only [Nat.zero_mul, Addr.add, if_true] at c0
      unfold World.cell? at c0
      dsimp only at c0
      split at c0
      · rename_i c ct fr hblk
        cases asp with
        | some s => simp at c0
        | none =>
          have cell : ∀ k : Nat, w.cell? ⟨ab, ao + k, none⟩ = c[ao + k]? := fun k => by unfold World.cell?; dsimp only; rw [hblk]; rfl
          have ad : ∀ k j : Nat, (Addr.add ⟨ab, ao, none⟩ k).add j = ⟨ab, ao + (k + j), none⟩ := fun k j => by
            unfold Addr.add
            split <;> split <;> simp_all <;> omega
          have at0 : ∀ i u, us[i]? = some u → c[ao + 2 * i]? = some (.int .i64 (u / 18446744073709551616)) ∧ c[ao + (2 * i + 1)]? = some (.int .u64 (u % 18446744073709551616)) := fun i u hu => by
            have := hq i u hu
            rw [ad, ad, cell, cell] at this
            rw [show 2 * i = i * 2 + 0 by omega]
            exact this.2
          refine ⟨⟨fun _ => none, fun b => if b = ab then some c else none⟩, us, ⟨rel_im _ (fun b x q => ?_), ?_, fun u hu => ?_, ?_⟩, .inr ⟨_, _, (Prod.mk.inj hxd).1, by rw [List.length_map]; omega⟩⟩
          · by_cases hb' : b = ab
            · subst hb'
              rw [if_pos rfl] at q; cases q
              exact ⟨_, _, hblk⟩
            · rw [if_neg hb'] at q; cases q
          · rw [hlu]
            refine VRel.lst _ _ c _ _ _ (if_pos rfl) ?_ hl ?_
            · obtain ⟨ul, hul⟩ : ∃ u, us[len0 - 1]? = some u := ⟨us[len0 - 1], by simp [show len0 - 1 < us.length by omega]⟩
              have := (at0 _ _ hul).2
              have := (Array.getElem?_eq_some_iff.mp this).1
              simp only [List.size_toArray, wcells_len]
              omega
            · intro k u u' hk hk'
              rw [List.getElem?_toArray] at hk
              obtain ⟨i, x, hi, q⟩ := wcells_get us k u hk
              rcases q with ⟨rfl, rfl⟩ | ⟨rfl, rfl⟩
              · rw [(at0 i x hi).1] at hk'; cases hk'; exact .int _ _
              · rw [(at0 i x hi).2] at hk'; cases hk'; exact .int _ _
          · obtain ⟨i, hi⟩ := List.getElem?_of_mem hu
            exact (hq i u hi).1
          · have : maxLen = 9223372036854775807 := by decide
            omega
      · cases c0
end
theorem calls1 {W : World} {f : FuncId} {us : List Int} {v : Value} {ρ : Ren} (p : PureF (C W) f [LV (wcells us) us.length] (.bool true)) (h : Came W ρ us v) :
    Calls Tryd.prog f #[v] W fun e w' => e = .returned (.bool true) ∧ Below W.heap.size W w' :=
  p.calls_at h.rel (.cons h.val (.nil _)) (.bool _)
theorem calls2 {W : World} {f : FuncId} {us : List Int} {v : Value} {ρ : Ren} {k : Int} (p : PureF (C W) f [LV (wcells us) us.length, .int .i64 k] (.bool true)) (h : Came W ρ us v) :
    Calls Tryd.prog f #[v, .int .i64 k] W fun e w' => e = .returned (.bool true) ∧ Below W.heap.size W w' :=
  p.calls_at h.rel (.cons h.val (.cons (.int _ _) (.nil _))) (.bool _)
end Go.Proofs.YtcfhmbhlibhlnaaDoor
