import Derived.Test.YtioahngbfdfcaaaDoorKLg
set_option linter.unusedVariables false
set_option linter.unusedSimpArgs false
namespace Go.Proofs.YtioahngbfdfcaaaDoor
open Go Go.Den Go.RowKit
variable {W0 : World}
/-! LinePlaces -/
theorem fieldsF_place (s : List UInt8) : ∀ (n : Nat) (e : Ev) (r : Bool) (k : Nat), 0 ≤ (fieldsF n e r s k).2.1 ∧ (fieldsF n e r s k).2.1 ≤ (s.length : Int) ∧ ((fieldsF n e r s k).2.2 = 0 ∨ (fieldsF n e r s k).2.2 = 44 ∨ (fieldsF n e r s k).2.2 = 45 ∨ (fieldsF n e r s k).2.2 = 46)
  | 0, e, r, k => ⟨Int.le_refl _, Int.natCast_nonneg _, .inl rfl⟩
  | n + 1, e, r, k => by
    rw [fieldsF]
    split
    · split
      · split
        · exact fieldsF_place s n _ _ _
        · exact ⟨Int.natCast_nonneg _, by dsimp only; omega, .inr (.inl rfl)⟩
      · split
        · split
          · exact fieldsF_place s n _ _ _
          · exact ⟨Int.natCast_nonneg _, by dsimp only; omega, .inr (.inr (.inl rfl))⟩
        · exact ⟨Int.natCast_nonneg _, by dsimp only; omega, .inr (.inr (.inr rfl))⟩
    · exact ⟨Int.le_refl _, Int.natCast_nonneg _, .inl rfl⟩
theorem parse_place (s : List UInt8) : 0 ≤ (parseL s).2.1 ∧ (parseL s).2.1 ≤ (s.length : Int) ∧ ((parseL s).2.2 = 0 → (parseL s).2.1 = 0) := by
  have f := fieldsF_place s (s.length + 1) (tvL s).1 false (at3 s)
  unfold parseL
  split
  · exact ⟨Int.le_refl _, Int.natCast_nonneg _, fun h => rfl⟩
  · split
    · rename_i h2
      have ul := upto_le h2
      split
      · split
        · split
          · exact ⟨Int.natCast_nonneg _, by dsimp only; omega, fun h => by cases h⟩
          · split
            · split
              · exact ⟨Int.le_refl _, Int.natCast_nonneg _, fun h => rfl⟩
              · rename_i h7
                exact ⟨f.1, f.2.1, fun h => absurd h h7⟩
            · exact ⟨Int.natCast_nonneg _, by dsimp only [at1]; omega, fun h => by cases h⟩
        · exact ⟨Int.natCast_nonneg _, Int.le_refl _, fun h => by cases h⟩
      · exact ⟨Int.le_refl _, Int.natCast_nonneg _, fun h => rfl⟩
    · exact ⟨Int.natCast_nonneg _, Int.le_refl _, fun h => by cases h⟩
theorem upto_more {b : UInt8} {t : List UInt8} : ∀ {a : List UInt8}, upto b (a ++ b :: t) = upto b a
  | [] => by simp [upto]
  | c :: a => by
    have := upto_more (b := b) (t := t) (a := a)
    unfold upto at this ⊢
    by_cases h : c = b
    · simp [h]
    · simpa [h] using this
theorem upto_in {b : UInt8} {t : List UInt8} : ∀ {a : List UInt8}, b ∈ a → upto b (a ++ t) = upto b a
  | [], h => by cases h
  | c :: a, h => by
    unfold upto
    by_cases hc : c = b
    · simp [hc]
    · have := upto_in (t := t) (a := a) (by rcases List.mem_cons.mp h with e | e; exact absurd e.symm hc; exact e)
      unfold upto at this
      simpa [hc] using this
theorem piece_more (s t : List UInt8) (k : Nat) (h : k ≤ s.length) : pieceL (s ++ 124 :: t) k = pieceL s k := by
  unfold pieceL
  rw [List.drop_append_of_le_length h]
  exact upto_more
theorem cut_two {b : UInt8} {t : List UInt8} : ∀ {acc : List UInt8}, 2 ≤ (cutA b acc t).length → b ∈ t := by
  induction t with
  | nil => intro acc h; simp [cutA] at h
  | cons c t ih =>
    intro acc h
    unfold cutA at h
    by_cases hc : c = b
    · simp [hc]
    · rw [if_neg hc] at h
      exact List.mem_cons_of_mem _ (ih h)
theorem parse_tail (s t : List UInt8) (h : (parseL s).2.2 = 43 ∨ (parseL s).2.2 = 42) (h58 : (58 : UInt8) ∈ s) (hp : 2 ≤ (cutA 124 [] (s.drop (at1 s))).length) (hl : s.length + t.length + 1 ≤ 1024) :
    (parseL (s ++ 124 :: t)).2 = (parseL s).2 := by
  have ul := upto_le h58
  have hb := cut_two hp
  have hv := upto_le hb
  rw [List.length_drop] at hv
  have a2 : at2 s ≤ s.length := by unfold at2 val1 pieceL; unfold at1 at hv ⊢; omega
  have e0 : upto 58 (s ++ 124 :: t) = upto 58 s := upto_in h58
  have e1 : at1 (s ++ 124 :: t) = at1 s := by unfold at1; rw [e0]
  have e2 : val1 (s ++ 124 :: t) = val1 s := by unfold val1; rw [e1]; exact piece_more _ _ _ ul
  have e3 : at2 (s ++ 124 :: t) = at2 s := by unfold at2; rw [e1, e2]
  have e4 : knd (s ++ 124 :: t) = knd s := by unfold knd; rw [e3]; exact piece_more _ _ _ a2
  have e5 : evN (s ++ 124 :: t) = evN s := by unfold evN; rw [e0, e4]
  have e6 : tvL (s ++ 124 :: t) = tvL s := by unfold tvL; rw [e5, e2]
  have f := fieldsF_place s (s.length + 1) (tvL s).1 false (at3 s)
  unfold parseL at h ⊢
  rw [if_neg (by omega), if_pos h58, if_pos a2] at h
  rw [if_neg (show ¬ 1024 < s.length by omega), if_pos h58, if_pos a2, if_neg (show ¬ 1024 < (s ++ 124 :: t).length by simp; omega), if_pos (List.mem_append_left _ h58), e0, e3, e4, e6, e1, if_pos (show at2 s ≤ (s ++ 124 :: t).length by simp; omega)]
  by_cases q3 : (cleanV (upto 58 s)).2 = true
  · rw [if_pos q3] at h
    rw [if_pos q3]
    try rw [if_pos q3]
    by_cases q5 : kindL (knd s) = 0
    · rw [if_pos q5]
      try rw [if_pos q5]
    · rw [if_neg q5] at h
      rw [if_neg q5]
      try rw [if_neg q5]
      by_cases q6 : (tvL s).2 = true
      · exfalso
        rw [if_pos q6] at h
        by_cases q7 : (flL s).2.2 = 0
        · rw [if_pos q7] at h; simp at h
        · rw [if_neg q7] at h
          have h2 : (flL s).2.2 = 43 ∨ (flL s).2.2 = 42 := h
          have f3 : (flL s).2.2 = 0 ∨ (flL s).2.2 = 44 ∨ (flL s).2.2 = 45 ∨ (flL s).2.2 = 46 := f.2.2
          omega
      · rw [if_neg q6]
        try rw [if_neg q6]
  · rw [if_neg q3]
    try rw [if_neg q3]
theorem parse_58 (s : List UInt8) (h : (parseL s).2.2 = 43 ∨ (parseL s).2.2 = 42) : (58 : UInt8) ∈ s := by
  by_cases q : (58 : UInt8) ∈ s
  · exact q
  · exfalso
    unfold parseL at h
    by_cases q1 : 1024 < s.length
    · rw [if_pos q1] at h; simp at h
    · rw [if_neg q1, if_neg q] at h; simp at h
attribute [local irreducible] parseL cutA
set_option maxRecDepth 20000 in
set_option maxHeartbeats 4000000 in
theorem linePlaces (hW : WF W0) (s t : List UInt8) (hs : s.length ≤ 1048576) (ht : t.length ≤ 1048576) : PureF (C W0) I.tumblerlaw04_LinePlaces [.string (bs s), .string (bs t)] (.bool true) := by
  have hz := bs_size s
  have hz2 := bs_size t
  have aw := awake hW
  have p1 := line_Parse hW s hs
  obtain ⟨g1, g2, g3⟩ := parse_place s
  have g4 : (parseL s).2.2 = 0 → (parseL s).2.1 = 0 := g3
  refine PureF.E (CallP.of_body (C_ok W0) B.tumblerlaw04_LinePlaces rfl rfl rfl ?_)
  by_cases h : (parseL s).2.2 = 43 ∨ (parseL s).2.2 = 42
  · have h58 := parse_58 s h
    have ul := upto_le h58
    have rc := ref_Colon (W0 := W0) s hs
    rw [if_pos h58] at rc
    have w1 : IntKind.i64.wrap (((upto 58 s).length : Int) + 1) = ((at1 s : Nat) : Int) := by unfold at1; rw [wrap_in (by omega)]; omega
    have rp := ref_Parts (W0 := W0) s hs (at1 s) ul
    rw [← w1, prtF_len] at rp
    have w5 : IntKind.i64.wrap (IntKind.i64.wrap (((bs s).size : Int) + ((bs t).size : Int)) + 1) = ((s.length + t.length + 1 : Nat) : Int) := by
      rw [show IntKind.i64.wrap (((bs s).size : Int) + ((bs t).size : Int)) = ((s.length + t.length : Nat) : Int) by rw [wrap_in (by omega)]; omega, wrap_in (by omega)]; omega
    have cl := cutA_len 124 (s.drop (at1 s)) []
    by_cases h2 : 2 ≤ (cutA 124 [] (s.drop (at1 s))).length
    · by_cases h3 : s.length + t.length + 1 ≤ 1024
      · have pt := parse_tail s t h h58 h2 h3
        have p2 := line_Parse hW (s ++ 124 :: t) (by simp; omega)
        rw [pt] at p2
        have e9 : bs s ++ ⟨#[124]⟩ ++ bs t = bs (s ++ 124 :: t) := by rw [show (⟨#[124]⟩ : ByteArray) = bs [124] from rfl, bs_app, bs_app]; simp
        rw [← e9] at p2
        have z0 : (⟨#[124]⟩ : ByteArray).size = 1 := rfl
        have z1 : (bs s).size + (⟨#[124]⟩ : ByteArray).size ≤ 9223372036854775807 := by omega
        have z2 : (bs s ++ ⟨#[124]⟩).size + (bs t).size ≤ 9223372036854775807 := by rw [ByteArray.size_append]; omega
        by_cases q43 : (parseL s).2.2 = 43
        ·
          repeat' first
            | refine brP.tD (by omega) ?_
            | refine brP.fD (by omega) ?_
            | refine brP.tN (by omega) ?_
            | refine brP.fN (by omega) ?_
            | refine (aw).call ?_
            | refine .inl ⟨_, aw, ?_⟩
            | refine (p1).call ?_
            | refine .inl ⟨_, p1, ?_⟩
            | refine (rc).call ?_
            | refine .inl ⟨_, rc, ?_⟩
            | refine (rp).call ?_
            | refine .inl ⟨_, rp, ?_⟩
            | refine (p2).call ?_
            | refine .inl ⟨_, p2, ?_⟩
            | refine ⟨z1, ?_⟩
            | refine ⟨z2, ?_⟩
            | (apply Here.norm; (first | dsimp only [Env.putR, argEnv, pure1, newPtr, applyE, hset, List.length_cons, List.length_nil, List.length_append, List.set, List.cons_append, List.nil_append] | rfl); (first | dsimp only [Env.putR, argEnv, pure1, newPtr, applyE, hset, List.length_cons, List.length_nil, List.length_append, List.set, List.cons_append, List.nil_append] | rfl))
            | refine brP.t (by assumption) ?_
            | refine brP.f (by assumption) ?_
            | refine brP.tD (by assumption) ?_
            | refine brP.fD (by assumption) ?_
            | refine brP.tN (by assumption) ?_
            | refine brP.fN (by assumption) ?_
            | refine brP.introD (fun h => ?_) (fun h => ?_)
            | refine brP.introN (fun h => ?_) (fun h => ?_)
            | refine brP.intro (fun h => ?_) (fun h => ?_)
            | refine ⟨_, _, _, _, _, rfl, rfl, rfl, Fits.mk (by first | exact Nat.le_of_ble_eq_true rfl | (dsimp only; omega)), rfl, ?_⟩
            | refine ⟨_, _, _, _, _, rfl, _, rfl, ?_⟩
            | refine ⟨_, _, _, _, _, rfl, Fits.mk (by first | exact Nat.le_of_ble_eq_true rfl | (dsimp only; omega)), _, rfl, ?_⟩
            | refine ⟨Fits.mk (by first | exact Nat.le_of_ble_eq_true rfl | (dsimp only; omega)), _, rfl, ?_⟩
            | refine draw_go (C_ok W0) (by kernel_rfl) ?_
            | refine ⟨cpt_ok (by kernel_rfl), ?_⟩
            | refine ⟨InB.mk (by first | decide | omega) (by first | decide | omega), ?_⟩
            | refine ⟨SlB.mk (by first | omega | decide) (by first | omega | decide) (by first | omega | decide), ?_⟩
            | refine ⟨ShB.mk (by first | decide | omega), ?_⟩
            | refine ⟨NzB.mk (by first | decide | omega), ?_⟩
            | refine ⟨by decide, MkB.mk (by omega) (by omega) (by omega) (by omega), ?_⟩
            | refine ⟨trivial, ?_⟩
            | refine ⟨by decide, rfl, by decide, ?_⟩
            | refine .inr ⟨by decide, _, _, _, _, _, rfl, rfl, Fits.mk (by first | exact Nat.le_of_ble_eq_true rfl | omega), ?_⟩
            | refine .inr ⟨by decide, by decide, Room.mk (by decide) (by decide), ?_⟩
            | refine .inr ⟨by decide, _, _, _, _, _, rfl, rfl, Room.mk (by omega) (by omega), .inr (.inr ⟨(by omega), rfl, rfl, rfl, (by first | omega | (simp; done) | (simp; omega)), (by omega), rfl, ?_⟩)⟩
            | refine ⟨by decide, ?_⟩
            | refine ⟨subHi_le _ _ _, ?_⟩
            | refine ⟨_, rfl, ?_⟩
            | fail
          exact congrArg Value.bool (decide_eq_true rfl)
        · have q42 : (parseL s).2.2 = 42 := h.resolve_left q43
          repeat' first
            | refine brP.tD (by omega) ?_
            | refine brP.fD (by omega) ?_
            | refine brP.tN (by omega) ?_
            | refine brP.fN (by omega) ?_
            | refine (aw).call ?_
            | refine .inl ⟨_, aw, ?_⟩
            | refine (p1).call ?_
            | refine .inl ⟨_, p1, ?_⟩
            | refine (rc).call ?_
            | refine .inl ⟨_, rc, ?_⟩
            | refine (rp).call ?_
            | refine .inl ⟨_, rp, ?_⟩
            | refine (p2).call ?_
            | refine .inl ⟨_, p2, ?_⟩
            | refine ⟨z1, ?_⟩
            | refine ⟨z2, ?_⟩
            | (apply Here.norm; (first | dsimp only [Env.putR, argEnv, pure1, newPtr, applyE, hset, List.length_cons, List.length_nil, List.length_append, List.set, List.cons_append, List.nil_append] | rfl); (first | dsimp only [Env.putR, argEnv, pure1, newPtr, applyE, hset, List.length_cons, List.length_nil, List.length_append, List.set, List.cons_append, List.nil_append] | rfl))
            | refine brP.t (by assumption) ?_
            | refine brP.f (by assumption) ?_
            | refine brP.tD (by assumption) ?_
            | refine brP.fD (by assumption) ?_
            | refine brP.tN (by assumption) ?_
            | refine brP.fN (by assumption) ?_
            | refine brP.introD (fun h => ?_) (fun h => ?_)
            | refine brP.introN (fun h => ?_) (fun h => ?_)
            | refine brP.intro (fun h => ?_) (fun h => ?_)
            | refine ⟨_, _, _, _, _, rfl, rfl, rfl, Fits.mk (by first | exact Nat.le_of_ble_eq_true rfl | (dsimp only; omega)), rfl, ?_⟩
            | refine ⟨_, _, _, _, _, rfl, _, rfl, ?_⟩
            | refine ⟨_, _, _, _, _, rfl, Fits.mk (by first | exact Nat.le_of_ble_eq_true rfl | (dsimp only; omega)), _, rfl, ?_⟩
            | refine ⟨Fits.mk (by first | exact Nat.le_of_ble_eq_true rfl | (dsimp only; omega)), _, rfl, ?_⟩
            | refine draw_go (C_ok W0) (by kernel_rfl) ?_
            | refine ⟨cpt_ok (by kernel_rfl), ?_⟩
            | refine ⟨InB.mk (by first | decide | omega) (by first | decide | omega), ?_⟩
            | refine ⟨SlB.mk (by first | omega | decide) (by first | omega | decide) (by first | omega | decide), ?_⟩
            | refine ⟨ShB.mk (by first | decide | omega), ?_⟩
            | refine ⟨NzB.mk (by first | decide | omega), ?_⟩
            | refine ⟨by decide, MkB.mk (by omega) (by omega) (by omega) (by omega), ?_⟩
            | refine ⟨trivial, ?_⟩
            | refine ⟨by decide, rfl, by decide, ?_⟩
            | refine .inr ⟨by decide, _, _, _, _, _, rfl, rfl, Fits.mk (by first | exact Nat.le_of_ble_eq_true rfl | omega), ?_⟩
            | refine .inr ⟨by decide, by decide, Room.mk (by decide) (by decide), ?_⟩
            | refine .inr ⟨by decide, _, _, _, _, _, rfl, rfl, Room.mk (by omega) (by omega), .inr (.inr ⟨(by omega), rfl, rfl, rfl, (by first | omega | (simp; done) | (simp; omega)), (by omega), rfl, ?_⟩)⟩
            | refine ⟨by decide, ?_⟩
            | refine ⟨subHi_le _ _ _, ?_⟩
            | refine ⟨_, rfl, ?_⟩
            | fail
          exact congrArg Value.bool (decide_eq_true rfl)
      · by_cases q43 : (parseL s).2.2 = 43
        ·
          repeat' first
            | refine brP.tD (by omega) ?_
            | refine brP.fD (by omega) ?_
            | refine brP.tN (by omega) ?_
            | refine brP.fN (by omega) ?_
            | refine (aw).call ?_
            | refine .inl ⟨_, aw, ?_⟩
            | refine (p1).call ?_
            | refine .inl ⟨_, p1, ?_⟩
            | refine (rc).call ?_
            | refine .inl ⟨_, rc, ?_⟩
            | refine (rp).call ?_
            | refine .inl ⟨_, rp, ?_⟩
            | (apply Here.norm; (first | dsimp only [Env.putR, argEnv, pure1, newPtr, applyE, hset, List.length_cons, List.length_nil, List.length_append, List.set, List.cons_append, List.nil_append] | rfl); (first | dsimp only [Env.putR, argEnv, pure1, newPtr, applyE, hset, List.length_cons, List.length_nil, List.length_append, List.set, List.cons_append, List.nil_append] | rfl))
            | refine brP.t (by assumption) ?_
            | refine brP.f (by assumption) ?_
            | refine brP.tD (by assumption) ?_
            | refine brP.fD (by assumption) ?_
            | refine brP.tN (by assumption) ?_
            | refine brP.fN (by assumption) ?_
            | refine brP.introD (fun h => ?_) (fun h => ?_)
            | refine brP.introN (fun h => ?_) (fun h => ?_)
            | refine brP.intro (fun h => ?_) (fun h => ?_)
            | refine ⟨_, _, _, _, _, rfl, rfl, rfl, Fits.mk (by first | exact Nat.le_of_ble_eq_true rfl | (dsimp only; omega)), rfl, ?_⟩
            | refine ⟨_, _, _, _, _, rfl, _, rfl, ?_⟩
            | refine ⟨_, _, _, _, _, rfl, Fits.mk (by first | exact Nat.le_of_ble_eq_true rfl | (dsimp only; omega)), _, rfl, ?_⟩
            | refine ⟨Fits.mk (by first | exact Nat.le_of_ble_eq_true rfl | (dsimp only; omega)), _, rfl, ?_⟩
            | refine draw_go (C_ok W0) (by kernel_rfl) ?_
            | refine ⟨cpt_ok (by kernel_rfl), ?_⟩
            | refine ⟨InB.mk (by first | decide | omega) (by first | decide | omega), ?_⟩
            | refine ⟨SlB.mk (by first | omega | decide) (by first | omega | decide) (by first | omega | decide), ?_⟩
            | refine ⟨ShB.mk (by first | decide | omega), ?_⟩
            | refine ⟨NzB.mk (by first | decide | omega), ?_⟩
            | refine ⟨by decide, MkB.mk (by omega) (by omega) (by omega) (by omega), ?_⟩
            | refine ⟨trivial, ?_⟩
            | refine ⟨by decide, rfl, by decide, ?_⟩
            | refine .inr ⟨by decide, _, _, _, _, _, rfl, rfl, Fits.mk (by first | exact Nat.le_of_ble_eq_true rfl | omega), ?_⟩
            | refine .inr ⟨by decide, by decide, Room.mk (by decide) (by decide), ?_⟩
            | refine .inr ⟨by decide, _, _, _, _, _, rfl, rfl, Room.mk (by omega) (by omega), .inr (.inr ⟨(by omega), rfl, rfl, rfl, (by first | omega | (simp; done) | (simp; omega)), (by omega), rfl, ?_⟩)⟩
            | refine ⟨by decide, ?_⟩
            | refine ⟨subHi_le _ _ _, ?_⟩
            | refine ⟨_, rfl, ?_⟩
            | fail
          rfl
        · have q42 : (parseL s).2.2 = 42 := h.resolve_left q43
          repeat' first
            | refine brP.tD (by omega) ?_
            | refine brP.fD (by omega) ?_
            | refine brP.tN (by omega) ?_
            | refine brP.fN (by omega) ?_
            | refine (aw).call ?_
            | refine .inl ⟨_, aw, ?_⟩
            | refine (p1).call ?_
            | refine .inl ⟨_, p1, ?_⟩
            | refine (rc).call ?_
            | refine .inl ⟨_, rc, ?_⟩
            | refine (rp).call ?_
            | refine .inl ⟨_, rp, ?_⟩
            | (apply Here.norm; (first | dsimp only [Env.putR, argEnv, pure1, newPtr, applyE, hset, List.length_cons, List.length_nil, List.length_append, List.set, List.cons_append, List.nil_append] | rfl); (first | dsimp only [Env.putR, argEnv, pure1, newPtr, applyE, hset, List.length_cons, List.length_nil, List.length_append, List.set, List.cons_append, List.nil_append] | rfl))
            | refine brP.t (by assumption) ?_
            | refine brP.f (by assumption) ?_
            | refine brP.tD (by assumption) ?_
            | refine brP.fD (by assumption) ?_
            | refine brP.tN (by assumption) ?_
            | refine brP.fN (by assumption) ?_
            | refine brP.introD (fun h => ?_) (fun h => ?_)
            | refine brP.introN (fun h => ?_) (fun h => ?_)
            | refine brP.intro (fun h => ?_) (fun h => ?_)
            | refine ⟨_, _, _, _, _, rfl, rfl, rfl, Fits.mk (by first | exact Nat.le_of_ble_eq_true rfl | (dsimp only; omega)), rfl, ?_⟩
            | refine ⟨_, _, _, _, _, rfl, _, rfl, ?_⟩
            | refine ⟨_, _, _, _, _, rfl, Fits.mk (by first | exact Nat.le_of_ble_eq_true rfl | (dsimp only; omega)), _, rfl, ?_⟩
            | refine ⟨Fits.mk (by first | exact Nat.le_of_ble_eq_true rfl | (dsimp only; omega)), _, rfl, ?_⟩
            | refine draw_go (C_ok W0) (by kernel_rfl) ?_
            | refine ⟨cpt_ok (by kernel_rfl), ?_⟩
            | refine ⟨InB.mk (by first | decide | omega) (by first | decide | omega), ?_⟩
            | refine ⟨SlB.mk (by first | omega | decide) (by first | omega | decide) (by first | omega | decide), ?_⟩
            | refine ⟨ShB.mk (by first | decide | omega), ?_⟩
            | refine ⟨NzB.mk (by first | decide | omega), ?_⟩
            | refine ⟨by decide, MkB.mk (by omega) (by omega) (by omega) (by omega), ?_⟩
            | refine ⟨trivial, ?_⟩
            | refine ⟨by decide, rfl, by decide, ?_⟩
            | refine .inr ⟨by decide, _, _, _, _, _, rfl, rfl, Fits.mk (by first | exact Nat.le_of_ble_eq_true rfl | omega), ?_⟩
            | refine .inr ⟨by decide, by decide, Room.mk (by decide) (by decide), ?_⟩
            | refine .inr ⟨by decide, _, _, _, _, _, rfl, rfl, Room.mk (by omega) (by omega), .inr (.inr ⟨(by omega), rfl, rfl, rfl, (by first | omega | (simp; done) | (simp; omega)), (by omega), rfl, ?_⟩)⟩
            | refine ⟨by decide, ?_⟩
            | refine ⟨subHi_le _ _ _, ?_⟩
            | refine ⟨_, rfl, ?_⟩
            | fail
          rfl
    · by_cases q43 : (parseL s).2.2 = 43
      ·
        repeat' first
          | refine brP.tD (by omega) ?_
          | refine brP.fD (by omega) ?_
          | refine brP.tN (by omega) ?_
          | refine brP.fN (by omega) ?_
          | refine (aw).call ?_
          | refine .inl ⟨_, aw, ?_⟩
          | refine (p1).call ?_
          | refine .inl ⟨_, p1, ?_⟩
          | refine (rc).call ?_
          | refine .inl ⟨_, rc, ?_⟩
          | refine (rp).call ?_
          | refine .inl ⟨_, rp, ?_⟩
          | (apply Here.norm; (first | dsimp only [Env.putR, argEnv, pure1, newPtr, applyE, hset, List.length_cons, List.length_nil, List.length_append, List.set, List.cons_append, List.nil_append] | rfl); (first | dsimp only [Env.putR, argEnv, pure1, newPtr, applyE, hset, List.length_cons, List.length_nil, List.length_append, List.set, List.cons_append, List.nil_append] | rfl))
          | refine brP.t (by assumption) ?_
          | refine brP.f (by assumption) ?_
          | refine brP.tD (by assumption) ?_
          | refine brP.fD (by assumption) ?_
          | refine brP.tN (by assumption) ?_
          | refine brP.fN (by assumption) ?_
          | refine brP.introD (fun h => ?_) (fun h => ?_)
          | refine brP.introN (fun h => ?_) (fun h => ?_)
          | refine brP.intro (fun h => ?_) (fun h => ?_)
          | refine ⟨_, _, _, _, _, rfl, rfl, rfl, Fits.mk (by first | exact Nat.le_of_ble_eq_true rfl | (dsimp only; omega)), rfl, ?_⟩
          | refine ⟨_, _, _, _, _, rfl, _, rfl, ?_⟩
          | refine ⟨_, _, _, _, _, rfl, Fits.mk (by first | exact Nat.le_of_ble_eq_true rfl | (dsimp only; omega)), _, rfl, ?_⟩
          | refine ⟨Fits.mk (by first | exact Nat.le_of_ble_eq_true rfl | (dsimp only; omega)), _, rfl, ?_⟩
          | refine draw_go (C_ok W0) (by kernel_rfl) ?_
          | refine ⟨cpt_ok (by kernel_rfl), ?_⟩
          | refine ⟨InB.mk (by first | decide | omega) (by first | decide | omega), ?_⟩
          | refine ⟨SlB.mk (by first | omega | decide) (by first | omega | decide) (by first | omega | decide), ?_⟩
          | refine ⟨ShB.mk (by first | decide | omega), ?_⟩
          | refine ⟨NzB.mk (by first | decide | omega), ?_⟩
          | refine ⟨by decide, MkB.mk (by omega) (by omega) (by omega) (by omega), ?_⟩
          | refine ⟨trivial, ?_⟩
          | refine ⟨by decide, rfl, by decide, ?_⟩
          | refine .inr ⟨by decide, _, _, _, _, _, rfl, rfl, Fits.mk (by first | exact Nat.le_of_ble_eq_true rfl | omega), ?_⟩
          | refine .inr ⟨by decide, by decide, Room.mk (by decide) (by decide), ?_⟩
          | refine .inr ⟨by decide, _, _, _, _, _, rfl, rfl, Room.mk (by omega) (by omega), .inr (.inr ⟨(by omega), rfl, rfl, rfl, (by first | omega | (simp; done) | (simp; omega)), (by omega), rfl, ?_⟩)⟩
          | refine ⟨by decide, ?_⟩
          | refine ⟨subHi_le _ _ _, ?_⟩
          | refine ⟨_, rfl, ?_⟩
          | fail
        rfl
      · have q42 : (parseL s).2.2 = 42 := h.resolve_left q43
        repeat' first
          | refine brP.tD (by omega) ?_
          | refine brP.fD (by omega) ?_
          | refine brP.tN (by omega) ?_
          | refine brP.fN (by omega) ?_
          | refine (aw).call ?_
          | refine .inl ⟨_, aw, ?_⟩
          | refine (p1).call ?_
          | refine .inl ⟨_, p1, ?_⟩
          | refine (rc).call ?_
          | refine .inl ⟨_, rc, ?_⟩
          | refine (rp).call ?_
          | refine .inl ⟨_, rp, ?_⟩
          | (apply Here.norm; (first | dsimp only [Env.putR, argEnv, pure1, newPtr, applyE, hset, List.length_cons, List.length_nil, List.length_append, List.set, List.cons_append, List.nil_append] | rfl); (first | dsimp only [Env.putR, argEnv, pure1, newPtr, applyE, hset, List.length_cons, List.length_nil, List.length_append, List.set, List.cons_append, List.nil_append] | rfl))
          | refine brP.t (by assumption) ?_
          | refine brP.f (by assumption) ?_
          | refine brP.tD (by assumption) ?_
          | refine brP.fD (by assumption) ?_
          | refine brP.tN (by assumption) ?_
          | refine brP.fN (by assumption) ?_
          | refine brP.introD (fun h => ?_) (fun h => ?_)
          | refine brP.introN (fun h => ?_) (fun h => ?_)
          | refine brP.intro (fun h => ?_) (fun h => ?_)
          | refine ⟨_, _, _, _, _, rfl, rfl, rfl, Fits.mk (by first | exact Nat.le_of_ble_eq_true rfl | (dsimp only; omega)), rfl, ?_⟩
          | refine ⟨_, _, _, _, _, rfl, _, rfl, ?_⟩
          | refine ⟨_, _, _, _, _, rfl, Fits.mk (by first | exact Nat.le_of_ble_eq_true rfl | (dsimp only; omega)), _, rfl, ?_⟩
          | refine ⟨Fits.mk (by first | exact Nat.le_of_ble_eq_true rfl | (dsimp only; omega)), _, rfl, ?_⟩
          | refine draw_go (C_ok W0) (by kernel_rfl) ?_
          | refine ⟨cpt_ok (by kernel_rfl), ?_⟩
          | refine ⟨InB.mk (by first | decide | omega) (by first | decide | omega), ?_⟩
          | refine ⟨SlB.mk (by first | omega | decide) (by first | omega | decide) (by first | omega | decide), ?_⟩
          | refine ⟨ShB.mk (by first | decide | omega), ?_⟩
          | refine ⟨NzB.mk (by first | decide | omega), ?_⟩
          | refine ⟨by decide, MkB.mk (by omega) (by omega) (by omega) (by omega), ?_⟩
          | refine ⟨trivial, ?_⟩
          | refine ⟨by decide, rfl, by decide, ?_⟩
          | refine .inr ⟨by decide, _, _, _, _, _, rfl, rfl, Fits.mk (by first | exact Nat.le_of_ble_eq_true rfl | omega), ?_⟩
          | refine .inr ⟨by decide, by decide, Room.mk (by decide) (by decide), ?_⟩
          | refine .inr ⟨by decide, _, _, _, _, _, rfl, rfl, Room.mk (by omega) (by omega), .inr (.inr ⟨(by omega), rfl, rfl, rfl, (by first | omega | (simp; done) | (simp; omega)), (by omega), rfl, ?_⟩)⟩
          | refine ⟨by decide, ?_⟩
          | refine ⟨subHi_le _ _ _, ?_⟩
          | refine ⟨_, rfl, ?_⟩
          | fail
        rfl
  · have h1 : ¬ (parseL s).2.2 = 43 := fun e => h (.inl e)
    have h2 : ¬ (parseL s).2.2 = 42 := fun e => h (.inr e)
    by_cases h0 : (parseL s).2.2 = 0
    · have g5 := g4 h0
      repeat' first
        | refine brP.tD (by omega) ?_
        | refine brP.fD (by omega) ?_
        | refine brP.tN (by omega) ?_
        | refine brP.fN (by omega) ?_
        | refine (aw).call ?_
        | refine .inl ⟨_, aw, ?_⟩
        | refine (p1).call ?_
        | refine .inl ⟨_, p1, ?_⟩
        | (apply Here.norm; (first | dsimp only [Env.putR, argEnv, pure1, newPtr, applyE, hset, List.length_cons, List.length_nil, List.length_append, List.set, List.cons_append, List.nil_append] | rfl); (first | dsimp only [Env.putR, argEnv, pure1, newPtr, applyE, hset, List.length_cons, List.length_nil, List.length_append, List.set, List.cons_append, List.nil_append] | rfl))
        | refine brP.t (by assumption) ?_
        | refine brP.f (by assumption) ?_
        | refine brP.tD (by assumption) ?_
        | refine brP.fD (by assumption) ?_
        | refine brP.tN (by assumption) ?_
        | refine brP.fN (by assumption) ?_
        | refine brP.introD (fun h => ?_) (fun h => ?_)
        | refine brP.introN (fun h => ?_) (fun h => ?_)
        | refine brP.intro (fun h => ?_) (fun h => ?_)
        | refine ⟨_, _, _, _, _, rfl, rfl, rfl, Fits.mk (by first | exact Nat.le_of_ble_eq_true rfl | (dsimp only; omega)), rfl, ?_⟩
        | refine ⟨_, _, _, _, _, rfl, _, rfl, ?_⟩
        | refine ⟨_, _, _, _, _, rfl, Fits.mk (by first | exact Nat.le_of_ble_eq_true rfl | (dsimp only; omega)), _, rfl, ?_⟩
        | refine ⟨Fits.mk (by first | exact Nat.le_of_ble_eq_true rfl | (dsimp only; omega)), _, rfl, ?_⟩
        | refine draw_go (C_ok W0) (by kernel_rfl) ?_
        | refine ⟨cpt_ok (by kernel_rfl), ?_⟩
        | refine ⟨InB.mk (by first | decide | omega) (by first | decide | omega), ?_⟩
        | refine ⟨SlB.mk (by first | omega | decide) (by first | omega | decide) (by first | omega | decide), ?_⟩
        | refine ⟨ShB.mk (by first | decide | omega), ?_⟩
        | refine ⟨NzB.mk (by first | decide | omega), ?_⟩
        | refine ⟨by decide, MkB.mk (by omega) (by omega) (by omega) (by omega), ?_⟩
        | refine ⟨trivial, ?_⟩
        | refine ⟨by decide, rfl, by decide, ?_⟩
        | refine .inr ⟨by decide, _, _, _, _, _, rfl, rfl, Fits.mk (by first | exact Nat.le_of_ble_eq_true rfl | omega), ?_⟩
        | refine .inr ⟨by decide, by decide, Room.mk (by decide) (by decide), ?_⟩
        | refine .inr ⟨by decide, _, _, _, _, _, rfl, rfl, Room.mk (by omega) (by omega), .inr (.inr ⟨(by omega), rfl, rfl, rfl, (by first | omega | (simp; done) | (simp; omega)), (by omega), rfl, ?_⟩)⟩
        | refine ⟨by decide, ?_⟩
        | refine ⟨subHi_le _ _ _, ?_⟩
        | refine ⟨_, rfl, ?_⟩
        | fail
      rfl
    ·
      repeat' first
        | refine brP.tD (by omega) ?_
        | refine brP.fD (by omega) ?_
        | refine brP.tN (by omega) ?_
        | refine brP.fN (by omega) ?_
        | refine (aw).call ?_
        | refine .inl ⟨_, aw, ?_⟩
        | refine (p1).call ?_
        | refine .inl ⟨_, p1, ?_⟩
        | (apply Here.norm; (first | dsimp only [Env.putR, argEnv, pure1, newPtr, applyE, hset, List.length_cons, List.length_nil, List.length_append, List.set, List.cons_append, List.nil_append] | rfl); (first | dsimp only [Env.putR, argEnv, pure1, newPtr, applyE, hset, List.length_cons, List.length_nil, List.length_append, List.set, List.cons_append, List.nil_append] | rfl))
        | refine brP.t (by assumption) ?_
        | refine brP.f (by assumption) ?_
        | refine brP.tD (by assumption) ?_
        | refine brP.fD (by assumption) ?_
        | refine brP.tN (by assumption) ?_
        | refine brP.fN (by assumption) ?_
        | refine brP.introD (fun h => ?_) (fun h => ?_)
        | refine brP.introN (fun h => ?_) (fun h => ?_)
        | refine brP.intro (fun h => ?_) (fun h => ?_)
        | refine ⟨_, _, _, _, _, rfl, rfl, rfl, Fits.mk (by first | exact Nat.le_of_ble_eq_true rfl | (dsimp only; omega)), rfl, ?_⟩
        | refine ⟨_, _, _, _, _, rfl, _, rfl, ?_⟩
        | refine ⟨_, _, _, _, _, rfl, Fits.mk (by first | exact Nat.le_of_ble_eq_true rfl | (dsimp only; omega)), _, rfl, ?_⟩
        | refine ⟨Fits.mk (by first | exact Nat.le_of_ble_eq_true rfl | (dsimp only; omega)), _, rfl, ?_⟩
        | refine draw_go (C_ok W0) (by kernel_rfl) ?_
        | refine ⟨cpt_ok (by kernel_rfl), ?_⟩
        | refine ⟨InB.mk (by first | decide | omega) (by first | decide | omega), ?_⟩
        | refine ⟨SlB.mk (by first | omega | decide) (by first | omega | decide) (by first | omega | decide), ?_⟩
        | refine ⟨ShB.mk (by first | decide | omega), ?_⟩
        | refine ⟨NzB.mk (by first | decide | omega), ?_⟩
        | refine ⟨by decide, MkB.mk (by omega) (by omega) (by omega) (by omega), ?_⟩
        | refine ⟨trivial, ?_⟩
        | refine ⟨by decide, rfl, by decide, ?_⟩
        | refine .inr ⟨by decide, _, _, _, _, _, rfl, rfl, Fits.mk (by first | exact Nat.le_of_ble_eq_true rfl | omega), ?_⟩
        | refine .inr ⟨by decide, by decide, Room.mk (by decide) (by decide), ?_⟩
        | refine .inr ⟨by decide, _, _, _, _, _, rfl, rfl, Room.mk (by omega) (by omega), .inr (.inr ⟨(by omega), rfl, rfl, rfl, (by first | omega | (simp; done) | (simp; omega)), (by omega), rfl, ?_⟩)⟩
        | refine ⟨by decide, ?_⟩
        | refine ⟨subHi_le _ _ _, ?_⟩
        | refine ⟨_, rfl, ?_⟩
        | fail
      rfl
end Go.Proofs.YtioahngbfdfcaaaDoor
