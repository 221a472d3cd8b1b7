import Derived.Test.YtcfhmbhlibhlnaaDoorKNl
set_option linter.unusedVariables false
set_option linter.unusedSimpArgs false
namespace Go.Proofs.YtcfhmbhlibhlnaaDoor
open Go Go.Den Go.RowKit
variable {W0 : World}
/-- A row of 32-bit cells; a list of them; a number without bound. -/
abbrev u32s (l : List Int) : List Value := l.map fun x => Value.int .u32 x
abbrev Lv (l : List Int) : Value := LV (u32s l) l.length
abbrev numV (x : Int) : Value := .agg #[.bool (decide (x < 0)), Lv (lim (mag x))]
theorem u32s_at {l : List Int} {j i : Nat} (e : j = i) (h : i < l.length) : (u32s l)[j]? = some (.int .u32 (rd l i)) := by
  subst e
  rw [List.getElem?_map, List.getElem?_eq_getElem h]
  unfold rd
  simp [h]
theorem u32s_take (l : List Int) (k : Nat) : (u32s l).take k = u32s (l.take k) := List.map_take.symm
theorem take_take' {α : Type} (l : List α) {i j : Nat} (h : i ≤ j) : (l.take j).take i = l.take i := by rw [List.take_take, Nat.min_eq_left h]
theorem rd_take (l : List Int) {i k : Nat} (h : i < k) : rd (l.take k) (i : Int) = rd l i := by
  unfold rd; rw [List.getD_eq_getElem?_getD, List.getD_eq_getElem?_getD, List.getElem?_take, if_pos (by omega)]
theorem take_succ_rd (l : List Int) {m : Nat} (h : m < l.length) : l.take (m + 1) = l.take m ++ [rd l m] := by
  rw [List.take_add_one]
  unfold rd
  simp [h]
theorem lv_slice {l : List Int} {k m a b : Nat} (ha : a = m) (hb : b = 0) (h : m ≤ k) : List.take (a * 1) (List.drop (b * 1) (u32s (l.take k))) = u32s (l.take m) := by
  subst ha; subst hb
  simp only [Nat.mul_one, Nat.zero_mul, List.drop_zero]
  rw [u32s_take, take_take' _ h]
theorem lv_fin {l l' : List Int} {n : Nat} (h : l = l') (hn : n = l'.length) : LV (u32s l) n = Lv l' := by subst h; subst hn; rfl
theorem ref_trim (l : List Int) (hl : Lm l) (hs : l.length ≤ 1000000000) : PureF (C W0) I.tumblerref01_trim [Lv l] (Lv (lim (nv l))) := by
  refine PureF.E (CallP.of_body (C_ok W0) B.tumblerref01_trim rfl rfl rfl ?_)
  repeat' first
    | (apply Here.norm; (first | dsimp only [Env.putR, argEnv, pure1, newPtr, applyE, hset, List.length_cons, List.length_nil, List.length_append, List.set, List.cons_append, List.nil_append] | rfl); (first | dsimp only [Env.putR, argEnv, pure1, newPtr, applyE, hset, List.length_cons, List.length_nil, List.length_append, List.set, List.cons_append, List.nil_append] | rfl))
    | refine brP.t (by assumption) ?_
    | refine brP.f (by assumption) ?_
    | refine brP.tD (by assumption) ?_
    | refine brP.fD (by assumption) ?_
    | refine brP.tN (by assumption) ?_
    | refine brP.fN (by assumption) ?_
    | refine brP.introD (fun h => ?_) (fun h => ?_)
    | refine brP.introN (fun h => ?_) (fun h => ?_)
    | refine brP.intro (fun h => ?_) (fun h => ?_)
    | refine ⟨_, _, _, _, _, rfl, rfl, rfl, Fits.mk (by first | exact Nat.le_of_ble_eq_true rfl | (dsimp only; omega)), rfl, ?_⟩
    | refine ⟨_, _, _, _, _, rfl, _, rfl, ?_⟩
    | refine ⟨_, _, _, _, _, rfl, Fits.mk (by first | exact Nat.le_of_ble_eq_true rfl | (dsimp only; omega)), _, rfl, ?_⟩
    | refine ⟨Fits.mk (by first | exact Nat.le_of_ble_eq_true rfl | (dsimp only; omega)), _, rfl, ?_⟩
    | refine draw_go (C_ok W0) (by kernel_rfl) ?_
    | refine ⟨cpt_ok (by kernel_rfl), ?_⟩
    | refine ⟨InB.mk (by first | decide | omega) (by first | decide | omega), ?_⟩
    | refine ⟨SlB.mk (by first | omega | decide) (by first | omega | decide) (by first | omega | decide), ?_⟩
    | refine ⟨ShB.mk (by first | decide | omega), ?_⟩
    | refine ⟨NzB.mk (by first | decide | omega), ?_⟩
    | refine ⟨by decide, MkB.mk (by omega) (by omega) (by omega) (by omega), ?_⟩
    | refine ⟨trivial, ?_⟩
    | refine ⟨by decide, rfl, by decide, ?_⟩
    | refine .inr ⟨by decide, _, _, _, _, _, rfl, rfl, Fits.mk (by first | exact Nat.le_of_ble_eq_true rfl | omega), ?_⟩
    | refine .inr ⟨by decide, by decide, Room.mk (by decide) (by decide), ?_⟩
    | refine .inr ⟨by decide, _, _, _, _, _, rfl, rfl, Room.mk (by omega) (by omega), .inr (.inr ⟨(by omega), rfl, rfl, rfl, (by first | omega | (simp; done) | (simp; omega)), (by omega), rfl, ?_⟩)⟩
    | refine ⟨by decide, ?_⟩
    | refine ⟨subHi_le _ _ _, ?_⟩
    | refine ⟨_, rfl, ?_⟩
    | fail
  refine loop_I (C_ok W0) (fun k : Nat => k ≤ l.length ∧ nv (l.take k) = nv l) (fun k => [(0, LV (u32s (l.take k)) k)]) (fun _ => []) (fun k => k) l.length ⟨Nat.le_refl _, by rw [List.take_length]⟩
    ⟨_, rfl, RT.of_eq (by dsimp only [List.map]; rw [List.take_length]) rfl⟩ ?_
  intro k ⟨hk, hv⟩
  cases k with
  | zero =>
    have h0 : decide ((0 : Int) < ((0 : Nat) : Int)) = false := by decide
    repeat' first
      | refine brP.f h0 ?_
      | refine lv_fin ?_ ?_
      | (apply Here.norm; (first | dsimp only [Env.putR, argEnv, pure1, newPtr, applyE, hset, List.length_cons, List.length_nil, List.length_append, List.set, List.cons_append, List.nil_append] | rfl); (first | dsimp only [Env.putR, argEnv, pure1, newPtr, applyE, hset, List.length_cons, List.length_nil, List.length_append, List.set, List.cons_append, List.nil_append] | rfl))
      | refine brP.t (by assumption) ?_
      | refine brP.f (by assumption) ?_
      | refine brP.tD (by assumption) ?_
      | refine brP.fD (by assumption) ?_
      | refine brP.tN (by assumption) ?_
      | refine brP.fN (by assumption) ?_
      | refine brP.introD (fun h => ?_) (fun h => ?_)
      | refine brP.introN (fun h => ?_) (fun h => ?_)
      | refine brP.intro (fun h => ?_) (fun h => ?_)
      | refine ⟨_, _, _, _, _, rfl, rfl, rfl, Fits.mk (by first | exact Nat.le_of_ble_eq_true rfl | (dsimp only; omega)), rfl, ?_⟩
      | refine ⟨_, _, _, _, _, rfl, _, rfl, ?_⟩
      | refine ⟨_, _, _, _, _, rfl, Fits.mk (by first | exact Nat.le_of_ble_eq_true rfl | (dsimp only; omega)), _, rfl, ?_⟩
      | refine ⟨Fits.mk (by first | exact Nat.le_of_ble_eq_true rfl | (dsimp only; omega)), _, rfl, ?_⟩
      | refine draw_go (C_ok W0) (by kernel_rfl) ?_
      | refine ⟨cpt_ok (by kernel_rfl), ?_⟩
      | refine ⟨InB.mk (by first | decide | omega) (by first | decide | omega), ?_⟩
      | refine ⟨SlB.mk (by first | omega | decide) (by first | omega | decide) (by first | omega | decide), ?_⟩
      | refine ⟨ShB.mk (by first | decide | omega), ?_⟩
      | refine ⟨NzB.mk (by first | decide | omega), ?_⟩
      | refine ⟨by decide, MkB.mk (by omega) (by omega) (by omega) (by omega), ?_⟩
      | refine ⟨trivial, ?_⟩
      | refine ⟨by decide, rfl, by decide, ?_⟩
      | refine .inr ⟨by decide, _, _, _, _, _, rfl, rfl, Fits.mk (by first | exact Nat.le_of_ble_eq_true rfl | omega), ?_⟩
      | refine .inr ⟨by decide, by decide, Room.mk (by decide) (by decide), ?_⟩
      | refine .inr ⟨by decide, _, _, _, _, _, rfl, rfl, Room.mk (by omega) (by omega), .inr (.inr ⟨(by omega), rfl, rfl, rfl, (by first | omega | (simp; done) | (simp; omega)), (by omega), rfl, ?_⟩)⟩
      | refine ⟨by decide, ?_⟩
      | refine ⟨subHi_le _ _ _, ?_⟩
      | refine ⟨_, rfl, ?_⟩
      | fail
    · rw [← hv]; rfl
    · rw [← hv]; rfl
  | succ m =>
    have h0 : decide ((0 : Int) < ((m + 1 : Nat) : Int)) = true := decide_eq_true (by omega)
    have hw : IntKind.i64.wrap (((m + 1 : Nat) : Int) - 1) = (m : Int) := by rw [wr_i64]; omega
    have ht := take_succ_rd l (m := m) (by omega)
    have hln : (l.take (m + 1)).length = m + 1 := by rw [List.length_take]; omega
    have hlen : (u32s (l.take (m + 1))).length = m + 1 := by rw [List.length_map, hln]
    have er : rd (l.take (m + 1)) (m : Int) = rd l m := rd_take _ (Nat.lt_succ_self m)
    by_cases c : rd l m = 0
    · have hc : decide (rd (l.take (m + 1)) (m : Int) = 0) = true := decide_eq_true (er.trans c)
      repeat' first
        | refine brP.t h0 ?_
        | refine brP.t hc ?_
        | refine ⟨_, u32s_at (i := m) (by omega) (by omega), ?_⟩
        | refine ⟨by omega, _, lv_slice (m := m) (by omega) (by omega) (Nat.le_succ m), ?_⟩
        | (apply Here.norm; (first | dsimp only [Env.putR, argEnv, pure1, newPtr, applyE, hset, List.length_cons, List.length_nil, List.length_append, List.set, List.cons_append, List.nil_append] | rfl); (first | dsimp only [Env.putR, argEnv, pure1, newPtr, applyE, hset, List.length_cons, List.length_nil, List.length_append, List.set, List.cons_append, List.nil_append] | rfl))
        | refine brP.t (by assumption) ?_
        | refine brP.f (by assumption) ?_
        | refine brP.tD (by assumption) ?_
        | refine brP.fD (by assumption) ?_
        | refine brP.tN (by assumption) ?_
        | refine brP.fN (by assumption) ?_
        | refine brP.introD (fun h => ?_) (fun h => ?_)
        | refine brP.introN (fun h => ?_) (fun h => ?_)
        | refine brP.intro (fun h => ?_) (fun h => ?_)
        | refine ⟨_, _, _, _, _, rfl, rfl, rfl, Fits.mk (by first | exact Nat.le_of_ble_eq_true rfl | (dsimp only; omega)), rfl, ?_⟩
        | refine ⟨_, _, _, _, _, rfl, _, rfl, ?_⟩
        | refine ⟨_, _, _, _, _, rfl, Fits.mk (by first | exact Nat.le_of_ble_eq_true rfl | (dsimp only; omega)), _, rfl, ?_⟩
        | refine ⟨Fits.mk (by first | exact Nat.le_of_ble_eq_true rfl | (dsimp only; omega)), _, rfl, ?_⟩
        | refine draw_go (C_ok W0) (by kernel_rfl) ?_
        | refine ⟨cpt_ok (by kernel_rfl), ?_⟩
        | refine ⟨InB.mk (by first | decide | omega) (by first | decide | omega), ?_⟩
        | refine ⟨SlB.mk (by first | omega | decide) (by first | omega | decide) (by first | omega | decide), ?_⟩
        | refine ⟨ShB.mk (by first | decide | omega), ?_⟩
        | refine ⟨NzB.mk (by first | decide | omega), ?_⟩
        | refine ⟨by decide, MkB.mk (by omega) (by omega) (by omega) (by omega), ?_⟩
        | refine ⟨trivial, ?_⟩
        | refine ⟨by decide, rfl, by decide, ?_⟩
        | refine .inr ⟨by decide, _, _, _, _, _, rfl, rfl, Fits.mk (by first | exact Nat.le_of_ble_eq_true rfl | omega), ?_⟩
        | refine .inr ⟨by decide, by decide, Room.mk (by decide) (by decide), ?_⟩
        | refine .inr ⟨by decide, _, _, _, _, _, rfl, rfl, Room.mk (by omega) (by omega), .inr (.inr ⟨(by omega), rfl, rfl, rfl, (by first | omega | (simp; done) | (simp; omega)), (by omega), rfl, ?_⟩)⟩
        | refine ⟨by decide, ?_⟩
        | refine ⟨subHi_le _ _ _, ?_⟩
        | refine ⟨_, rfl, ?_⟩
        | fail
      apply Again.mk m
      · refine ⟨by omega, ?_⟩
        rw [← hv, ht, c, nv_snoc, Int.mul_zero, Int.add_zero]
      · omega
      · exact ⟨_, rfl, RT.of_eq (by rw [hw]; rfl) rfl⟩
    · have hc : decide (rd (l.take (m + 1)) (m : Int) = 0) = false := decide_eq_false (fun z => c (er.symm.trans z))
      repeat' first
        | refine brP.t h0 ?_
        | refine brP.f hc ?_
        | refine ⟨_, u32s_at (i := m) (by omega) (by omega), ?_⟩
        | refine lv_fin ?_ ?_
        | (apply Here.norm; (first | dsimp only [Env.putR, argEnv, pure1, newPtr, applyE, hset, List.length_cons, List.length_nil, List.length_append, List.set, List.cons_append, List.nil_append] | rfl); (first | dsimp only [Env.putR, argEnv, pure1, newPtr, applyE, hset, List.length_cons, List.length_nil, List.length_append, List.set, List.cons_append, List.nil_append] | rfl))
        | refine brP.t (by assumption) ?_
        | refine brP.f (by assumption) ?_
        | refine brP.tD (by assumption) ?_
        | refine brP.fD (by assumption) ?_
        | refine brP.tN (by assumption) ?_
        | refine brP.fN (by assumption) ?_
        | refine brP.introD (fun h => ?_) (fun h => ?_)
        | refine brP.introN (fun h => ?_) (fun h => ?_)
        | refine brP.intro (fun h => ?_) (fun h => ?_)
        | refine ⟨_, _, _, _, _, rfl, rfl, rfl, Fits.mk (by first | exact Nat.le_of_ble_eq_true rfl | (dsimp only; omega)), rfl, ?_⟩
        | refine ⟨_, _, _, _, _, rfl, _, rfl, ?_⟩
        | refine ⟨_, _, _, _, _, rfl, Fits.mk (by first | exact Nat.le_of_ble_eq_true rfl | (dsimp only; omega)), _, rfl, ?_⟩
        | refine ⟨Fits.mk (by first | exact Nat.le_of_ble_eq_true rfl | (dsimp only; omega)), _, rfl, ?_⟩
        | refine draw_go (C_ok W0) (by kernel_rfl) ?_
        | refine ⟨cpt_ok (by kernel_rfl), ?_⟩
        | refine ⟨InB.mk (by first | decide | omega) (by first | decide | omega), ?_⟩
        | refine ⟨SlB.mk (by first | omega | decide) (by first | omega | decide) (by first | omega | decide), ?_⟩
        | refine ⟨ShB.mk (by first | decide | omega), ?_⟩
        | refine ⟨NzB.mk (by first | decide | omega), ?_⟩
        | refine ⟨by decide, MkB.mk (by omega) (by omega) (by omega) (by omega), ?_⟩
        | refine ⟨trivial, ?_⟩
        | refine ⟨by decide, rfl, by decide, ?_⟩
        | refine .inr ⟨by decide, _, _, _, _, _, rfl, rfl, Fits.mk (by first | exact Nat.le_of_ble_eq_true rfl | omega), ?_⟩
        | refine .inr ⟨by decide, by decide, Room.mk (by decide) (by decide), ?_⟩
        | refine .inr ⟨by decide, _, _, _, _, _, rfl, rfl, Room.mk (by omega) (by omega), .inr (.inr ⟨(by omega), rfl, rfl, rfl, (by first | omega | (simp; done) | (simp; omega)), (by omega), rfl, ?_⟩)⟩
        | refine ⟨by decide, ?_⟩
        | refine ⟨subHi_le _ _ _, ?_⟩
        | refine ⟨_, rfl, ?_⟩
        | fail
      all_goals (rw [← hv, lim_nv (Lm_take hl _) (by intro x hx; rw [ht] at hx; simp at hx; omega)])
      exact hln.symm
end Go.Proofs.YtcfhmbhlibhlnaaDoor
