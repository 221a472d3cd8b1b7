import Derived.Test.YtcfhmbhlibhlnaaDoorKNb
set_option linter.unusedVariables false
set_option linter.unusedSimpArgs false
namespace Go.Proofs.YtcfhmbhlibhlnaaDoor
open Go Go.Den Go.RowKit
variable {W0 : World}
/-- A row that grows: nothing yet, or in a block. -/
def gsV (k : Nat) : List Int → Value
  | [] => .slice none 0 0
  | x :: r => .slice (some ⟨k, 0, none⟩) (r.length + 1) (r.length + 1)
def gbV : List Int → ABlk
  | [] => .dead
  | x :: r => .cells (u32s (x :: r)) 1 true true Y.uint32
instance {k : Nat} : NFv (gsV k []) := ⟨(AF.sliceN 0 0).nf⟩
theorem gsV_snoc (k : Nat) (o : List Int) (x : Int) : gsV k (o ++ [x]) = .slice (some ⟨k, 0, none⟩) (o.length + 1) (o.length + 1) := by cases o <;> simp [gsV]
theorem gbV_snoc (o : List Int) (x : Int) : gbV (o ++ [x]) = .cells (u32s (o ++ [x])) 1 true true Y.uint32 := by cases o <;> rfl
theorem rd_lt {l : List Int} (h : Lm l) (i : Int) : 0 ≤ rd l i ∧ rd l i < 65536 := rd_range h i
theorem wr_u32 (n : Int) : IntKind.u32.wrap n = n % 4294967296 := by simp [IntKind.wrap, IntKind.bits, IntKind.signed]
theorem shr16 (x : Int) (h0 : 0 ≤ x) : shrV .u32 x 16 = x / 65536 := by
  show x.fdiv (2 ^ (min 16 32)) = _
  rw [Int.fdiv_eq_ediv_of_nonneg _ (by decide)]; rfl
theorem u32s_snoc {o : List Int} {n : Nat} {y x : Int} (hn : n = o.length) (e : y = x) : List.take (n * 1) (List.drop 0 (u32s o)) ++ [Value.int .u32 y] = u32s (o ++ [x]) := by
  subst hn; subst e
  rw [Nat.mul_one, List.drop_zero, List.take_of_length_le (by simp)]; simp [List.map_append]
theorem len_snoc {o : List Int} {x : Int} {n : Nat} (hn : n = o.length) (h : n < 4611686018427387904) : IntKind.i64.wrap ((n : Int) + 1) = ((o ++ [x]).length : Int) := by
  rw [wrap_in (by omega)]; simp; omega
theorem addL_fin (a b : List Int) (ha : Lm a) (hb : Lm b) {i : Nat} (h1 : a.length ≤ i) (h2 : b.length ≤ i) {n : Int} (hv : n + B i * 0 = nv a % B i + nv b % B i) : n = nv a + nv b := by
  rw [nv_mod_full ha _ h1, nv_mod_full hb _ h2] at hv; omega
theorem addL_step (a b : List Int) (ha : Lm a) (hb : Lm b) (o : List Int) (c : Int) (ho : Lm o) (hc : c = 0 ∨ c = 1) (hi : o.length ≤ a.length + b.length + 1) (hv : nv o + B o.length * c = nv a % B o.length + nv b % B o.length) (hl : o.length = a.length + b.length + 1 → c = 0)
    (go : o.length < a.length ∨ o.length < b.length ∨ 0 < c) :
    ∃ s, Go.bits .and .u32 (IntKind.u32.wrap (IntKind.u32.wrap (rd a o.length + rd b o.length) + c)) 65535 = s % 65536 ∧ shrV .u32 (IntKind.u32.wrap (IntKind.u32.wrap (rd a o.length + rd b o.length) + c)) 16 = s / 65536 ∧ o.length < a.length + b.length + 1 ∧
      Lm (o ++ [s % 65536]) ∧ (s / 65536 = 0 ∨ s / 65536 = 1) ∧ nv (o ++ [s % 65536]) + B (o.length + 1) * (s / 65536) = nv a % B (o.length + 1) + nv b % B (o.length + 1) ∧ (o.length + 1 = a.length + b.length + 1 → s / 65536 = 0) := by
  have hna := nv_nonneg ha
  have hnb := nv_nonneg hb
  have da := digit_range (nv a) o.length
  have db := digit_range (nv b) o.length
  have e1 := mod_succ (nv a) o.length hna
  have e2 := mod_succ (nv b) o.length hnb
  rw [rd_nv ha, rd_nv hb]
  have hi' : o.length < a.length + b.length + 1 := by
    rcases Nat.lt_or_eq_of_le hi with h | h
    · exact h
    · have := hl h; omega
  have hfin : o.length + 1 = a.length + b.length + 1 → (nv a / B o.length % 65536 + nv b / B o.length % 65536 + c) / 65536 = 0 := by
    intro h
    have zero : ∀ l : List Int, Lm l → l.length ≤ o.length → nv l / B o.length = 0 := fun l hl hle => by
      refine Int.ediv_eq_zero_of_lt (nv_nonneg hl) ?_
      have := nv_lt hl
      have := B_le hle
      omega
    rw [zero a ha (by omega), zero b hb (by omega), Int.zero_emod]; omega
  generalize hx : nv a / B o.length % 65536 = x at *
  generalize hy : nv b / B o.length % 65536 = y at *
  have hB := B_pos o.length
  have es : IntKind.u32.wrap (IntKind.u32.wrap (x + y) + c) = x + y + c := by rw [wr_u32, wr_u32]; omega
  rw [es]
  refine ⟨x + y + c, and_u32 _ (by omega) (by omega), shr16 _ (by omega), hi', Lm_snoc ho (by omega), by omega, ?_, hfin⟩
  rw [nv_snoc, e1, e2, B_succ]
  have h1 : 65536 * B o.length * ((x + y + c) / 65536) = B o.length * (65536 * ((x + y + c) / 65536)) := by rw [Int.mul_comm 65536 (B o.length), Int.mul_assoc]
  rw [h1, Int.add_assoc, ← Int.mul_add, show (x + y + c) % 65536 + 65536 * ((x + y + c) / 65536) = x + y + c by omega, Int.mul_add, Int.mul_add]
  omega
theorem ref_addL (a b : List Int) (ha : Lm a) (hb : Lm b) (hsa : a.length ≤ 400000000) (hsb : b.length ≤ 400000000) : PureF (C W0) I.tumblerref01_addL [Lv a, Lv b] (Lv (lim (nv a + nv b))) := by
  refine PureF.E (CallP.of_body (C_ok W0) B.tumblerref01_addL rfl rfl rfl ?_)
  repeat' first
    | (apply Here.norm; (first | dsimp only [Env.putR, argEnv, pure1, newPtr, applyE, hset, List.length_cons, List.length_nil, List.length_append, List.set, List.cons_append, List.nil_append] | rfl); (first | dsimp only [Env.putR, argEnv, pure1, newPtr, applyE, hset, List.length_cons, List.length_nil, List.length_append, List.set, List.cons_append, List.nil_append] | rfl))
    | refine brP.t (by assumption) ?_
    | refine brP.f (by assumption) ?_
    | refine brP.tD (by assumption) ?_
    | refine brP.fD (by assumption) ?_
    | refine brP.tN (by assumption) ?_
    | refine brP.fN (by assumption) ?_
    | refine brP.introD (fun h => ?_) (fun h => ?_)
    | refine brP.introN (fun h => ?_) (fun h => ?_)
    | refine brP.intro (fun h => ?_) (fun h => ?_)
    | refine ⟨_, _, _, _, _, rfl, rfl, rfl, Fits.mk (by first | exact Nat.le_of_ble_eq_true rfl | (dsimp only; omega)), rfl, ?_⟩
    | refine ⟨_, _, _, _, _, rfl, _, rfl, ?_⟩
    | refine ⟨_, _, _, _, _, rfl, Fits.mk (by first | exact Nat.le_of_ble_eq_true rfl | (dsimp only; omega)), _, rfl, ?_⟩
    | refine ⟨Fits.mk (by first | exact Nat.le_of_ble_eq_true rfl | (dsimp only; omega)), _, rfl, ?_⟩
    | refine draw_go (C_ok W0) (by kernel_rfl) ?_
    | refine ⟨cpt_ok (by kernel_rfl), ?_⟩
    | refine ⟨InB.mk (by first | decide | omega) (by first | decide | omega), ?_⟩
    | refine ⟨SlB.mk (by first | omega | decide) (by first | omega | decide) (by first | omega | decide), ?_⟩
    | refine ⟨ShB.mk (by first | decide | omega), ?_⟩
    | refine ⟨NzB.mk (by first | decide | omega), ?_⟩
    | refine ⟨by decide, MkB.mk (by omega) (by omega) (by omega) (by omega), ?_⟩
    | refine ⟨trivial, ?_⟩
    | refine ⟨by decide, rfl, by decide, ?_⟩
    | refine .inr ⟨by decide, _, _, _, _, _, rfl, rfl, Fits.mk (by first | exact Nat.le_of_ble_eq_true rfl | omega), ?_⟩
    | refine .inr ⟨by decide, by decide, Room.mk (by decide) (by decide), ?_⟩
    | refine .inr ⟨by decide, _, _, _, _, _, rfl, rfl, Room.mk (by omega) (by omega), .inr (.inr ⟨(by omega), rfl, rfl, rfl, (by first | omega | (simp; done) | (simp; omega)), (by omega), rfl, ?_⟩)⟩
    | refine ⟨by decide, ?_⟩
    | refine ⟨subHi_le _ _ _, ?_⟩
    | refine ⟨_, rfl, ?_⟩
    | fail
  refine loop_I (C_ok W0) (fun (p : List Int × Int) => Lm p.1 ∧ (p.2 = 0 ∨ p.2 = 1) ∧ p.1.length ≤ a.length + b.length + 1 ∧ nv p.1 + B p.1.length * p.2 = nv a % B p.1.length + nv b % B p.1.length ∧ (p.1.length = a.length + b.length + 1 → p.2 = 0))
    (fun p => [(0, Lv a), (1, Lv b), (5, gsV 0 p.1), (6, .int .u32 p.2), (7, .int .i64 p.1.length)]) (fun p => [gbV p.1]) (fun p => a.length + b.length + 2 - p.1.length) ([], 0)
    ⟨Lm_nil, .inl rfl, by simp, by simp [nv, B], fun _ => rfl⟩ ⟨_, rfl, ?_⟩ ?_
  · exact RT.trans (.of_eq rfl rfl) .pad
  rintro ⟨o, c⟩ ⟨ho, hc, hi, hv, hl⟩
  dsimp only at ho hc hi hv hl ⊢
  have la := ref_limb (W0 := W0) a o.length
  have lb := ref_limb (W0 := W0) b o.length
  have st := addL_step a b ha hb o c ho hc hi hv hl
  have tr := ref_trim (W0 := W0) o ho (by omega)
  have en := fun h1 h2 n => addL_fin a b ha hb (i := o.length) h1 h2 (n := n)
  cases o with
  | nil =>
    repeat' first
      | refine la.call ?_
      | refine lb.call ?_
      | refine (tr.give0 (.cons (VTo.emptyN _) .nil) _).call trivial ?_
      | refine lv_fin ?_ ?_
      | (apply Here.norm; (first | dsimp only [Env.putR, argEnv, pure1, newPtr, applyE, hset, List.length_cons, List.length_nil, List.length_append, List.set, List.cons_append, List.nil_append] | rfl); (first | dsimp only [Env.putR, argEnv, pure1, newPtr, applyE, hset, List.length_cons, List.length_nil, List.length_append, List.set, List.cons_append, List.nil_append] | rfl))
      | refine brP.t (by assumption) ?_
      | refine brP.f (by assumption) ?_
      | refine brP.tD (by assumption) ?_
      | refine brP.fD (by assumption) ?_
      | refine brP.tN (by assumption) ?_
      | refine brP.fN (by assumption) ?_
      | refine brP.introD (fun h => ?_) (fun h => ?_)
      | refine brP.introN (fun h => ?_) (fun h => ?_)
      | refine brP.intro (fun h => ?_) (fun h => ?_)
      | refine ⟨_, _, _, _, _, rfl, rfl, rfl, Fits.mk (by first | exact Nat.le_of_ble_eq_true rfl | (dsimp only; omega)), rfl, ?_⟩
      | refine ⟨_, _, _, _, _, rfl, _, rfl, ?_⟩
      | refine ⟨_, _, _, _, _, rfl, Fits.mk (by first | exact Nat.le_of_ble_eq_true rfl | (dsimp only; omega)), _, rfl, ?_⟩
      | refine ⟨Fits.mk (by first | exact Nat.le_of_ble_eq_true rfl | (dsimp only; omega)), _, rfl, ?_⟩
      | refine draw_go (C_ok W0) (by kernel_rfl) ?_
      | refine ⟨cpt_ok (by kernel_rfl), ?_⟩
      | refine ⟨InB.mk (by first | decide | omega) (by first | decide | omega), ?_⟩
      | refine ⟨SlB.mk (by first | omega | decide) (by first | omega | decide) (by first | omega | decide), ?_⟩
      | refine ⟨ShB.mk (by first | decide | omega), ?_⟩
      | refine ⟨NzB.mk (by first | decide | omega), ?_⟩
      | refine ⟨by decide, MkB.mk (by omega) (by omega) (by omega) (by omega), ?_⟩
      | refine ⟨trivial, ?_⟩
      | refine ⟨by decide, rfl, by decide, ?_⟩
      | refine .inr ⟨by decide, _, _, _, _, _, rfl, rfl, Fits.mk (by first | exact Nat.le_of_ble_eq_true rfl | omega), ?_⟩
      | refine .inr ⟨by decide, by decide, Room.mk (by decide) (by decide), ?_⟩
      | refine .inr ⟨by decide, _, _, _, _, _, rfl, rfl, Room.mk (by omega) (by omega), .inr (.inr ⟨(by omega), rfl, rfl, rfl, (by first | omega | (simp; done) | (simp; omega)), (by omega), rfl, ?_⟩)⟩
      | refine ⟨by decide, ?_⟩
      | refine ⟨subHi_le _ _ _, ?_⟩
      | refine ⟨_, rfl, ?_⟩
      | fail
    iterate 3
      focus
        obtain ⟨s, q1, q2, s4, s5, s6, s7, s8⟩ := st (by omega)
        apply Again.mk ([] ++ [s % 65536], s / 65536)
        · exact ⟨s5, s6, by simp, by simpa using s7, by simpa using s8⟩
        · simp
        · refine ⟨_, rfl, ?_⟩
          dsimp only [List.map]
          rw [gsV_snoc, gbV_snoc]
          refine RT.ren [2] rfl rfl ?_ ?_
          all_goals (repeat' first
            | exact trivial
            | exact LTo.nil
            | refine ⟨⟨_, rfl, ?_, (fun z => by cases z)⟩, ?_⟩
            | refine BTo.cells (fun z => z) ?_
            | refine BTo.cells (fun z => by cases z) ?_
            | exact VTo.ptr (by decide)
            | exact VTo.slice (by decide)
            | exact VTo.map (by decide)
            | exact VTo.emptyN _
            | refine LTo.cons ?_ ?_
            | refine VTo.int ?_
            | refine VTo.bool ?_
            | refine VTo.string ?_
            | refine VTo.agg ?_
            | refine VTo.tuple ?_
            | exact VTo.same _
            | (with_reducible rfl)
            | exact VTo.n rfl
            | exact LTo.n rfl
            | refine LTo.n ?_
            | refine VTo.n ?_
            )
          · exact q1
          · exact q2
          · exact len_snoc rfl (by decide)
    · rw [← en (by omega) (by omega) (nv ([] : List Int)) (by rw [show c = 0 by omega] at hv; exact hv)]
    · rw [← en (by omega) (by omega) (nv ([] : List Int)) (by rw [show c = 0 by omega] at hv; exact hv)]
  | cons x r =>
    have hr : r.length ≤ 900000000 := by simp at hi; omega
    have e1 : List.take ((r.length + 1) * 1) (List.drop 0 (u32s (x :: r))) = u32s (x :: r) := by rw [Nat.mul_one, List.drop_zero, List.take_of_length_le (by simp)]
    repeat' first
      | refine la.call ?_
      | refine lb.call ?_
      | refine (tr.give1 0 (.cons (VTo.fz' (by simp) e1) .nil) _).call ⟨rfl, trivial⟩ ?_
      | refine lv_fin ?_ ?_
      | (apply Here.norm; (first | dsimp only [Env.putR, argEnv, pure1, newPtr, applyE, hset, List.length_cons, List.length_nil, List.length_append, List.set, List.cons_append, List.nil_append] | rfl); (first | dsimp only [Env.putR, argEnv, pure1, newPtr, applyE, hset, List.length_cons, List.length_nil, List.length_append, List.set, List.cons_append, List.nil_append] | rfl))
      | refine brP.t (by assumption) ?_
      | refine brP.f (by assumption) ?_
      | refine brP.tD (by assumption) ?_
      | refine brP.fD (by assumption) ?_
      | refine brP.tN (by assumption) ?_
      | refine brP.fN (by assumption) ?_
      | refine brP.introD (fun h => ?_) (fun h => ?_)
      | refine brP.introN (fun h => ?_) (fun h => ?_)
      | refine brP.intro (fun h => ?_) (fun h => ?_)
      | refine ⟨_, _, _, _, _, rfl, rfl, rfl, Fits.mk (by first | exact Nat.le_of_ble_eq_true rfl | (dsimp only; omega)), rfl, ?_⟩
      | refine ⟨_, _, _, _, _, rfl, _, rfl, ?_⟩
      | refine ⟨_, _, _, _, _, rfl, Fits.mk (by first | exact Nat.le_of_ble_eq_true rfl | (dsimp only; omega)), _, rfl, ?_⟩
      | refine ⟨Fits.mk (by first | exact Nat.le_of_ble_eq_true rfl | (dsimp only; omega)), _, rfl, ?_⟩
      | refine draw_go (C_ok W0) (by kernel_rfl) ?_
      | refine ⟨cpt_ok (by kernel_rfl), ?_⟩
      | refine ⟨InB.mk (by first | decide | omega) (by first | decide | omega), ?_⟩
      | refine ⟨SlB.mk (by first | omega | decide) (by first | omega | decide) (by first | omega | decide), ?_⟩
      | refine ⟨ShB.mk (by first | decide | omega), ?_⟩
      | refine ⟨NzB.mk (by first | decide | omega), ?_⟩
      | refine ⟨by decide, MkB.mk (by omega) (by omega) (by omega) (by omega), ?_⟩
      | refine ⟨trivial, ?_⟩
      | refine ⟨by decide, rfl, by decide, ?_⟩
      | refine .inr ⟨by decide, _, _, _, _, _, rfl, rfl, Fits.mk (by first | exact Nat.le_of_ble_eq_true rfl | omega), ?_⟩
      | refine .inr ⟨by decide, by decide, Room.mk (by decide) (by decide), ?_⟩
      | refine .inr ⟨by decide, _, _, _, _, _, rfl, rfl, Room.mk (by omega) (by omega), .inr (.inr ⟨(by omega), rfl, rfl, rfl, (by first | omega | (simp; done) | (simp; omega)), (by omega), rfl, ?_⟩)⟩
      | refine ⟨by decide, ?_⟩
      | refine ⟨subHi_le _ _ _, ?_⟩
      | refine ⟨_, rfl, ?_⟩
      | fail
    iterate 3
      focus
        obtain ⟨s, q1, q2, s4, s5, s6, s7, s8⟩ := st (by omega)
        apply Again.mk (x :: r ++ [s % 65536], s / 65536)
        · exact ⟨s5, s6, by simp only [List.length_append, List.length_cons, List.length_nil] at s4 ⊢; omega, by simpa using s7, by simpa using s8⟩
        · simp only [List.length_append, List.length_cons, List.length_nil] at s4 ⊢; omega
        · refine ⟨_, rfl, ?_⟩
          dsimp only [List.map]
          rw [gsV_snoc, gbV_snoc]
          refine RT.ren [2] rfl rfl ?_ ?_
          all_goals (repeat' first
            | exact trivial
            | exact LTo.nil
            | refine ⟨⟨_, rfl, ?_, (fun z => by cases z)⟩, ?_⟩
            | refine BTo.cells (fun z => z) ?_
            | refine BTo.cells (fun z => by cases z) ?_
            | exact VTo.ptr (by decide)
            | exact VTo.slice (by decide)
            | exact VTo.map (by decide)
            | exact VTo.emptyN _
            | refine LTo.cons ?_ ?_
            | refine VTo.int ?_
            | refine VTo.bool ?_
            | refine VTo.string ?_
            | refine VTo.agg ?_
            | refine VTo.tuple ?_
            | exact VTo.same _
            | (with_reducible rfl)
            | exact VTo.n rfl
            | exact LTo.n rfl
            | refine LTo.n ?_
            | refine VTo.n ?_
            )
          · exact u32s_snoc rfl q1
          · exact q2
          · exact len_snoc rfl (by omega)
    · rw [← en (by omega) (by omega) (nv (x :: r)) (by rw [show c = 0 by omega] at hv; exact hv)]
    · rw [← en (by omega) (by omega) (nv (x :: r)) (by rw [show c = 0 by omega] at hv; exact hv)]
theorem subL_step (a b : List Int) (ha : Lm a) (hb : Lm b) (o : List Int) (c : Int) (ho : Lm o) (hc : c = 0 ∨ c = 1) (hi : o.length < a.length) (hv : nv o - B o.length * c = nv a % B o.length - nv b % B o.length) :
    ∃ s, Go.bits .and .u32 (IntKind.u32.wrap (IntKind.u32.wrap (IntKind.u32.wrap (rd a o.length + 65536) - rd b o.length) - c)) 65535 = s % 65536 ∧ IntKind.u32.wrap (1 - shrV .u32 (IntKind.u32.wrap (IntKind.u32.wrap (IntKind.u32.wrap (rd a o.length + 65536) - rd b o.length) - c)) 16) = 1 - s / 65536 ∧
      Lm (o ++ [s % 65536]) ∧ (1 - s / 65536 = 0 ∨ 1 - s / 65536 = 1) ∧ nv (o ++ [s % 65536]) - B (o.length + 1) * (1 - s / 65536) = nv a % B (o.length + 1) - nv b % B (o.length + 1) := by
  have hna := nv_nonneg ha
  have hnb := nv_nonneg hb
  have da := digit_range (nv a) o.length
  have db := digit_range (nv b) o.length
  have e1 := mod_succ (nv a) o.length hna
  have e2 := mod_succ (nv b) o.length hnb
  rw [rd_nv ha, rd_nv hb]
  generalize hx : nv a / B o.length % 65536 = x at *
  generalize hy : nv b / B o.length % 65536 = y at *
  have hB := B_pos o.length
  have es : IntKind.u32.wrap (IntKind.u32.wrap (IntKind.u32.wrap (x + 65536) - y) - c) = x + 65536 - y - c := by rw [wr_u32, wr_u32, wr_u32]; omega
  rw [es]
  refine ⟨x + 65536 - y - c, and_u32 _ (by omega) (by omega), by rw [shr16 _ (by omega), wr_u32]; omega, Lm_snoc ho (by omega), by omega, ?_⟩
  rw [nv_snoc, e1, e2, B_succ]
  have h1 : 65536 * B o.length * (1 - (x + 65536 - y - c) / 65536) = B o.length * (65536 * (1 - (x + 65536 - y - c) / 65536)) := by rw [Int.mul_comm 65536 (B o.length), Int.mul_assoc]
  rw [h1, Int.add_sub_assoc, ← Int.mul_sub, show (x + 65536 - y - c) % 65536 - 65536 * (1 - (x + 65536 - y - c) / 65536) = x - y - c by omega, Int.mul_sub, Int.mul_sub]
  omega
theorem subL_fin (a b : List Int) (ha : Lm a) (hb : Lm b) (hab : nv b ≤ nv a) (o : List Int) (c : Int) (ho : Lm o) (hc : c = 0 ∨ c = 1) (hi : a.length = o.length) (hv : nv o - B o.length * c = nv a % B o.length - nv b % B o.length) : nv o = nv a - nv b := by
  have hna := nv_nonneg ha
  have hnb := nv_nonneg hb
  have h1 := nv_lt ha
  have h2 := nv_lt ho
  have h3 := nv_nonneg ho
  rw [hi] at h1
  rw [nv_mod_full ha _ (by omega), Int.emod_eq_of_lt hnb (by omega)] at hv
  have c0 : c = 0 := by
    rcases hc with h | h
    · exact h
    · subst h; omega
  subst c0
  omega
theorem ref_subL (a b : List Int) (ha : Lm a) (hb : Lm b) (hsa : a.length ≤ 400000000) (hab : nv b ≤ nv a) : PureF (C W0) I.tumblerref01_subL [Lv a, Lv b] (Lv (lim (nv a - nv b))) := by
  refine PureF.E (CallP.of_body (C_ok W0) B.tumblerref01_subL rfl rfl rfl ?_)
  repeat' first
    | (apply Here.norm; (first | dsimp only [Env.putR, argEnv, pure1, newPtr, applyE, hset, List.length_cons, List.length_nil, List.length_append, List.set, List.cons_append, List.nil_append] | rfl); (first | dsimp only [Env.putR, argEnv, pure1, newPtr, applyE, hset, List.length_cons, List.length_nil, List.length_append, List.set, List.cons_append, List.nil_append] | rfl))
    | refine brP.t (by assumption) ?_
    | refine brP.f (by assumption) ?_
    | refine brP.tD (by assumption) ?_
    | refine brP.fD (by assumption) ?_
    | refine brP.tN (by assumption) ?_
    | refine brP.fN (by assumption) ?_
    | refine brP.introD (fun h => ?_) (fun h => ?_)
    | refine brP.introN (fun h => ?_) (fun h => ?_)
    | refine brP.intro (fun h => ?_) (fun h => ?_)
    | refine ⟨_, _, _, _, _, rfl, rfl, rfl, Fits.mk (by first | exact Nat.le_of_ble_eq_true rfl | (dsimp only; omega)), rfl, ?_⟩
    | refine ⟨_, _, _, _, _, rfl, _, rfl, ?_⟩
    | refine ⟨_, _, _, _, _, rfl, Fits.mk (by first | exact Nat.le_of_ble_eq_true rfl | (dsimp only; omega)), _, rfl, ?_⟩
    | refine ⟨Fits.mk (by first | exact Nat.le_of_ble_eq_true rfl | (dsimp only; omega)), _, rfl, ?_⟩
    | refine draw_go (C_ok W0) (by kernel_rfl) ?_
    | refine ⟨cpt_ok (by kernel_rfl), ?_⟩
    | refine ⟨InB.mk (by first | decide | omega) (by first | decide | omega), ?_⟩
    | refine ⟨SlB.mk (by first | omega | decide) (by first | omega | decide) (by first | omega | decide), ?_⟩
    | refine ⟨ShB.mk (by first | decide | omega), ?_⟩
    | refine ⟨NzB.mk (by first | decide | omega), ?_⟩
    | refine ⟨by decide, MkB.mk (by omega) (by omega) (by omega) (by omega), ?_⟩
    | refine ⟨trivial, ?_⟩
    | refine ⟨by decide, rfl, by decide, ?_⟩
    | refine .inr ⟨by decide, _, _, _, _, _, rfl, rfl, Fits.mk (by first | exact Nat.le_of_ble_eq_true rfl | omega), ?_⟩
    | refine .inr ⟨by decide, by decide, Room.mk (by decide) (by decide), ?_⟩
    | refine .inr ⟨by decide, _, _, _, _, _, rfl, rfl, Room.mk (by omega) (by omega), .inr (.inr ⟨(by omega), rfl, rfl, rfl, (by first | omega | (simp; done) | (simp; omega)), (by omega), rfl, ?_⟩)⟩
    | refine ⟨by decide, ?_⟩
    | refine ⟨subHi_le _ _ _, ?_⟩
    | refine ⟨_, rfl, ?_⟩
    | fail
  refine loop_I (C_ok W0) (fun (p : List Int × Int) => Lm p.1 ∧ (p.2 = 0 ∨ p.2 = 1) ∧ p.1.length ≤ a.length ∧ nv p.1 - B p.1.length * p.2 = nv a % B p.1.length - nv b % B p.1.length)
    (fun p => [(0, Lv a), (1, Lv b), (5, gsV 0 p.1), (6, .int .u32 p.2), (7, .int .i64 p.1.length)]) (fun p => [gbV p.1]) (fun p => a.length - p.1.length) ([], 0)
    ⟨Lm_nil, .inl rfl, by simp, by simp [nv, B]⟩ ⟨_, rfl, ?_⟩ ?_
  · exact RT.trans (.of_eq rfl rfl) .pad
  rintro ⟨o, c⟩ ⟨ho, hc, hi, hv⟩
  dsimp only at ho hc hi hv ⊢
  have la := ref_limb (W0 := W0) a o.length
  have lb := ref_limb (W0 := W0) b o.length
  have st := fun h => subL_step a b ha hb o c ho hc h hv
  have tr := ref_trim (W0 := W0) o ho (by omega)
  have en := fun h => subL_fin a b ha hb hab o c ho hc h hv
  cases o with
  | nil =>
    have hcl : ([] : List Int).length = 0 := rfl
    repeat' first
      | refine la.call ?_
      | refine lb.call ?_
      | refine (tr.give0 (.cons (VTo.emptyN _) .nil) _).call trivial ?_
      | refine lv_fin ?_ ?_
      | (apply Here.norm; (first | dsimp only [Env.putR, argEnv, pure1, newPtr, applyE, hset, List.length_cons, List.length_nil, List.length_append, List.set, List.cons_append, List.nil_append] | rfl); (first | dsimp only [Env.putR, argEnv, pure1, newPtr, applyE, hset, List.length_cons, List.length_nil, List.length_append, List.set, List.cons_append, List.nil_append] | rfl))
      | refine brP.t (by assumption) ?_
      | refine brP.f (by assumption) ?_
      | refine brP.tD (by assumption) ?_
      | refine brP.fD (by assumption) ?_
      | refine brP.tN (by assumption) ?_
      | refine brP.fN (by assumption) ?_
      | refine brP.introD (fun h => ?_) (fun h => ?_)
      | refine brP.introN (fun h => ?_) (fun h => ?_)
      | refine brP.intro (fun h => ?_) (fun h => ?_)
      | refine ⟨_, _, _, _, _, rfl, rfl, rfl, Fits.mk (by first | exact Nat.le_of_ble_eq_true rfl | (dsimp only; omega)), rfl, ?_⟩
      | refine ⟨_, _, _, _, _, rfl, _, rfl, ?_⟩
      | refine ⟨_, _, _, _, _, rfl, Fits.mk (by first | exact Nat.le_of_ble_eq_true rfl | (dsimp only; omega)), _, rfl, ?_⟩
      | refine ⟨Fits.mk (by first | exact Nat.le_of_ble_eq_true rfl | (dsimp only; omega)), _, rfl, ?_⟩
      | refine draw_go (C_ok W0) (by kernel_rfl) ?_
      | refine ⟨cpt_ok (by kernel_rfl), ?_⟩
      | refine ⟨InB.mk (by first | decide | omega) (by first | decide | omega), ?_⟩
      | refine ⟨SlB.mk (by first | omega | decide) (by first | omega | decide) (by first | omega | decide), ?_⟩
      | refine ⟨ShB.mk (by first | decide | omega), ?_⟩
      | refine ⟨NzB.mk (by first | decide | omega), ?_⟩
      | refine ⟨by decide, MkB.mk (by omega) (by omega) (by omega) (by omega), ?_⟩
      | refine ⟨trivial, ?_⟩
      | refine ⟨by decide, rfl, by decide, ?_⟩
      | refine .inr ⟨by decide, _, _, _, _, _, rfl, rfl, Fits.mk (by first | exact Nat.le_of_ble_eq_true rfl | omega), ?_⟩
      | refine .inr ⟨by decide, by decide, Room.mk (by decide) (by decide), ?_⟩
      | refine .inr ⟨by decide, _, _, _, _, _, rfl, rfl, Room.mk (by omega) (by omega), .inr (.inr ⟨(by omega), rfl, rfl, rfl, (by first | omega | (simp; done) | (simp; omega)), (by omega), rfl, ?_⟩)⟩
      | refine ⟨by decide, ?_⟩
      | refine ⟨subHi_le _ _ _, ?_⟩
      | refine ⟨_, rfl, ?_⟩
      | fail
    · obtain ⟨s, q1, q2, s5, s6, s7⟩ := st (by omega)
      apply Again.mk ([] ++ [s % 65536], 1 - s / 65536)
      · exact ⟨s5, s6, by simp only [List.length_append, List.length_cons, List.length_nil] at *; omega, by simpa using s7⟩
      · simp only [List.length_append, List.length_cons, List.length_nil] at *; omega
      · refine ⟨_, rfl, ?_⟩
        dsimp only [List.map]
        rw [gsV_snoc, gbV_snoc]
        refine RT.ren [2] rfl rfl ?_ ?_
        all_goals (repeat' first
          | exact trivial
          | exact LTo.nil
          | refine ⟨⟨_, rfl, ?_, (fun z => by cases z)⟩, ?_⟩
          | refine BTo.cells (fun z => z) ?_
          | refine BTo.cells (fun z => by cases z) ?_
          | exact VTo.ptr (by decide)
          | exact VTo.slice (by decide)
          | exact VTo.map (by decide)
          | exact VTo.emptyN _
          | refine LTo.cons ?_ ?_
          | refine VTo.int ?_
          | refine VTo.bool ?_
          | refine VTo.string ?_
          | refine VTo.agg ?_
          | refine VTo.tuple ?_
          | exact VTo.same _
          | (with_reducible rfl)
          | exact VTo.n rfl
          | exact LTo.n rfl
          | refine LTo.n ?_
          | refine VTo.n ?_
          )
        · exact q1
        · exact q2
        · exact len_snoc rfl (by decide)
    · rw [← en (by simp only [List.length_nil] at *; omega)]
    · rw [← en (by simp only [List.length_nil] at *; omega)]
  | cons x r =>
    have hcl : (x :: r).length = r.length + 1 := rfl
    have hr : r.length ≤ 900000000 := by simp at hi; omega
    have e1 : List.take ((r.length + 1) * 1) (List.drop 0 (u32s (x :: r))) = u32s (x :: r) := by rw [Nat.mul_one, List.drop_zero, List.take_of_length_le (by simp)]
    repeat' first
      | refine la.call ?_
      | refine lb.call ?_
      | refine (tr.give1 0 (.cons (VTo.fz' (by simp) e1) .nil) _).call ⟨rfl, trivial⟩ ?_
      | refine lv_fin ?_ ?_
      | (apply Here.norm; (first | dsimp only [Env.putR, argEnv, pure1, newPtr, applyE, hset, List.length_cons, List.length_nil, List.length_append, List.set, List.cons_append, List.nil_append] | rfl); (first | dsimp only [Env.putR, argEnv, pure1, newPtr, applyE, hset, List.length_cons, List.length_nil, List.length_append, List.set, List.cons_append, List.nil_append] | rfl))
      | refine brP.t (by assumption) ?_
      | refine brP.f (by assumption) ?_
      | refine brP.tD (by assumption) ?_
      | refine brP.fD (by assumption) ?_
      | refine brP.tN (by assumption) ?_
      | refine brP.fN (by assumption) ?_
      | refine brP.introD (fun h => ?_) (fun h => ?_)
      | refine brP.introN (fun h => ?_) (fun h => ?_)
      | refine brP.intro (fun h => ?_) (fun h => ?_)
      | refine ⟨_, _, _, _, _, rfl, rfl, rfl, Fits.mk (by first | exact Nat.le_of_ble_eq_true rfl | (dsimp only; omega)), rfl, ?_⟩
      | refine ⟨_, _, _, _, _, rfl, _, rfl, ?_⟩
      | refine ⟨_, _, _, _, _, rfl, Fits.mk (by first | exact Nat.le_of_ble_eq_true rfl | (dsimp only; omega)), _, rfl, ?_⟩
      | refine ⟨Fits.mk (by first | exact Nat.le_of_ble_eq_true rfl | (dsimp only; omega)), _, rfl, ?_⟩
      | refine draw_go (C_ok W0) (by kernel_rfl) ?_
      | refine ⟨cpt_ok (by kernel_rfl), ?_⟩
      | refine ⟨InB.mk (by first | decide | omega) (by first | decide | omega), ?_⟩
      | refine ⟨SlB.mk (by first | omega | decide) (by first | omega | decide) (by first | omega | decide), ?_⟩
      | refine ⟨ShB.mk (by first | decide | omega), ?_⟩
      | refine ⟨NzB.mk (by first | decide | omega), ?_⟩
      | refine ⟨by decide, MkB.mk (by omega) (by omega) (by omega) (by omega), ?_⟩
      | refine ⟨trivial, ?_⟩
      | refine ⟨by decide, rfl, by decide, ?_⟩
      | refine .inr ⟨by decide, _, _, _, _, _, rfl, rfl, Fits.mk (by first | exact Nat.le_of_ble_eq_true rfl | omega), ?_⟩
      | refine .inr ⟨by decide, by decide, Room.mk (by decide) (by decide), ?_⟩
      | refine .inr ⟨by decide, _, _, _, _, _, rfl, rfl, Room.mk (by omega) (by omega), .inr (.inr ⟨(by omega), rfl, rfl, rfl, (by first | omega | (simp; done) | (simp; omega)), (by omega), rfl, ?_⟩)⟩
      | refine ⟨by decide, ?_⟩
      | refine ⟨subHi_le _ _ _, ?_⟩
      | refine ⟨_, rfl, ?_⟩
      | fail
    · obtain ⟨s, q1, q2, s5, s6, s7⟩ := st (by omega)
      apply Again.mk (x :: r ++ [s % 65536], 1 - s / 65536)
      · exact ⟨s5, s6, by simp only [List.length_append, List.length_cons, List.length_nil] at *; omega, by simpa using s7⟩
      · simp only [List.length_append, List.length_cons, List.length_nil] at *; omega
      · refine ⟨_, rfl, ?_⟩
        dsimp only [List.map]
        rw [gsV_snoc, gbV_snoc]
        refine RT.ren [2] rfl rfl ?_ ?_
        all_goals (repeat' first
          | exact trivial
          | exact LTo.nil
          | refine ⟨⟨_, rfl, ?_, (fun z => by cases z)⟩, ?_⟩
          | refine BTo.cells (fun z => z) ?_
          | refine BTo.cells (fun z => by cases z) ?_
          | exact VTo.ptr (by decide)
          | exact VTo.slice (by decide)
          | exact VTo.map (by decide)
          | exact VTo.emptyN _
          | refine LTo.cons ?_ ?_
          | refine VTo.int ?_
          | refine VTo.bool ?_
          | refine VTo.string ?_
          | refine VTo.agg ?_
          | refine VTo.tuple ?_
          | exact VTo.same _
          | (with_reducible rfl)
          | exact VTo.n rfl
          | exact LTo.n rfl
          | refine LTo.n ?_
          | refine VTo.n ?_
          )
        · exact u32s_snoc rfl q1
        · exact q2
        · exact len_snoc rfl (by omega)
    · rw [← en (by omega)]
    · rw [← en (by omega)]
end Go.Proofs.YtcfhmbhlibhlnaaDoor
