import Derived.Test.YtcfhmbhlibhlnaaDoorKNd
set_option linter.unusedVariables false
set_option linter.unusedSimpArgs false
namespace Go.Proofs.YtcfhmbhlibhlnaaDoor
open Go Go.Den Go.RowKit
variable {W0 : World}
theorem shl_u32n (j : Nat) (h : j < 16) : shlV .u32 1 (j : Int) = 2 ^ j := by
  have e : min (j : Int).toNat (IntKind.u32.bits) = j := by show min (j : Int).toNat 32 = _; omega
  unfold shlV; rw [e, Int.one_mul]
  have h1 := two_le (show j ≤ 15 by omega)
  have h2 := two_pos j
  have e3 : (2 : Int) ^ 15 = 32768 := by decide
  have : IntKind.u32.wrap (2 ^ j) = 2 ^ j % 4294967296 := by simp [IntKind.wrap, IntKind.bits, IntKind.signed]
  rw [this]; omega
/-- A bit of a list of limbs as a bit of its number. -/
theorem bit_list {l : List Int} (hl : Lm l) (m : Nat) : Go.bits .and .u32 (shrV .u32 (rd l ((m / 16 : Nat) : Int)) ((m % 16 : Nat) : Int)) 1 = nv l / 2 ^ m % 2 := by
  have r := rd_nv hl (m / 16)
  have dg := digit_range (nv l) (m / 16)
  have hp := two_pos (m % 16)
  have e : min ((m % 16 : Nat) : Int).toNat (IntKind.u32.bits) = m % 16 := by show min ((m % 16 : Nat) : Int).toNat 32 = _; omega
  rw [r]
  unfold shrV; rw [e, Int.fdiv_eq_ediv_of_nonneg _ (Int.le_of_lt hp)]
  have h0 : 0 ≤ nv l / B (m / 16) % 65536 / 2 ^ (m % 16) := Int.ediv_nonneg dg.1 (Int.le_of_lt hp)
  have h1 : nv l / B (m / 16) % 65536 / 2 ^ (m % 16) ≤ nv l / B (m / 16) % 65536 := Int.ediv_le_self _ dg.1
  rw [and_one32 _ h0 (by omega)]
  have es : (2 : Int) ^ m = B (m / 16) * 2 ^ (m % 16) := by rw [B_two, ← two_add]; congr 1; omega
  rw [es, ← Int.ediv_ediv_of_nonneg (Int.le_of_lt (B_pos _))]
  generalize nv l / B (m / 16) = X
  have e2 : (65536 : Int) = 2 ^ (m % 16) * (2 ^ (15 - m % 16) * 2) := by
    rw [← Int.pow_succ, ← two_add, show m % 16 + (15 - m % 16 + 1) = 16 by omega]; rfl
  have h := Int.emod_add_mul_ediv X 65536
  have k : X / 2 ^ (m % 16) = X % 65536 / 2 ^ (m % 16) + 2 ^ (15 - m % 16) * 2 * (X / 65536) := by
    have h' : X = X % 65536 + (2 ^ (15 - m % 16) * 2 * (X / 65536)) * 2 ^ (m % 16) := by
      rw [Int.mul_comm _ ((2 : Int) ^ (m % 16)), ← Int.mul_assoc ((2 : Int) ^ (m % 16)), ← e2]; exact h.symm
    conv => lhs; rw [h']
    rw [Int.add_mul_ediv_right _ _ (by omega)]
  rw [k, Int.mul_comm ((2 : Int) ^ (15 - m % 16)) 2, Int.mul_assoc]
  omega
/-- A bit set in a list whose number has none there or below. -/
theorem set_list {q : List Int} (hq : Lm q) (m : Nat) (hm : m / 16 < q.length) (hd : nv q % 2 ^ (m + 1) = 0) :
    nv (q.set (m / 16) (Go.bits .or .u32 (rd q ((m / 16 : Nat) : Int)) (2 ^ (m % 16)))) = nv q + 2 ^ m ∧ Lm (q.set (m / 16) (Go.bits .or .u32 (rd q ((m / 16 : Nat) : Int)) (2 ^ (m % 16)))) := by
  have r := rd_nv hq (m / 16)
  have dg := rd_range hq ((m / 16 : Nat) : Int)
  have hp := two_pos (m % 16)
  have h15 := two_le (show m % 16 ≤ 15 by omega)
  have e15 : (2 : Int) ^ 15 = 32768 := by decide
  have es : (2 : Int) ^ (m + 1) = B (m / 16) * 2 ^ (m % 16 + 1) := by rw [B_two, ← two_add]; congr 1; omega
  have e16 : (65536 : Int) = 2 ^ (m % 16 + 1) * 2 ^ (15 - m % 16) := by rw [← two_add, show m % 16 + 1 + (15 - m % 16) = 16 by omega]; rfl
  have hx : rd q ((m / 16 : Nat) : Int) % 2 ^ (m % 16 + 1) = 0 := by
    rw [r]
    obtain ⟨c, hc⟩ := Int.dvd_of_emod_eq_zero hd
    rw [hc, es, Int.mul_assoc, Int.mul_ediv_cancel_left _ (by have := B_pos (m / 16); omega), e16, Int.mul_emod_mul_of_pos _ _ (two_pos _), Int.mul_emod_right]
  have ho : Go.bits .or .u32 (rd q ((m / 16 : Nat) : Int)) (2 ^ (m % 16)) = rd q ((m / 16 : Nat) : Int) + 2 ^ (m % 16) :=
    bits_join .u32 32 (by decide) wraps_u32 (m % 16 + 1) _ _ dg.1 hx (by omega) (Int.le_of_lt hp) (two_lt _) (by omega)
  rw [ho]
  have hlt : rd q ((m / 16 : Nat) : Int) + 2 ^ (m % 16) < 65536 := by
    obtain ⟨c, hc⟩ := Int.dvd_of_emod_eq_zero hx
    have h1 : c < 2 ^ (15 - m % 16) := by
      have : 2 ^ (m % 16 + 1) * c < 2 ^ (m % 16 + 1) * 2 ^ (15 - m % 16) := by rw [← e16, ← hc]; exact dg.2
      exact Int.lt_of_mul_lt_mul_left this (Int.le_of_lt (two_pos _))
    have h2 : 2 ^ (m % 16 + 1) * (c + 1) ≤ 2 ^ (m % 16 + 1) * 2 ^ (15 - m % 16) := Int.mul_le_mul_of_nonneg_left (by omega) (Int.le_of_lt (two_pos _))
    rw [← e16, Int.mul_add, Int.mul_one, ← hc] at h2
    have := two_lt (m % 16)
    omega
  refine ⟨?_, Lm_set hq _ _ (by omega)⟩
  rw [nv_set _ _ hm]
  have : rd q ((m / 16 : Nat) : Int) + 2 ^ (m % 16) - rd q ((m / 16 : Nat) : Int) = 2 ^ (m % 16) := by omega
  rw [this, B_two, ← two_add]
  congr 2; omega
theorem idx16 (m : Nat) (h : m < 1000000000) : IntKind.i64.wrap (Int.tdiv (m : Int) 16) = ((m / 16 : Nat) : Int) ∧ IntKind.u64.wrap (Int.tmod (m : Int) 16) = ((m % 16 : Nat) : Int) ∧ IntKind.i64.wrap ((m : Int) - 1) = (m : Int) - 1 := by
  refine ⟨?_, ?_, wrap_in (by omega)⟩
  · rw [Int.tdiv_eq_ediv_of_nonneg (by omega), wrap_in (by omega)]; omega
  · rw [Int.tmod_eq_emod_of_nonneg (by omega)]; exact wraps_u64 _ (by omega) (by omega)
set_option maxHeartbeats 2000000 in
theorem ref_divL (A n : Int) (hA : 0 ≤ A) (hn : 0 < n) (lA : (lim A).length ≤ 100000) (ln : (lim n).length ≤ 100000) : PureF (C W0) I.tumblerref01_divL [Lv (lim A), Lv (lim n)] (.tuple #[Lv (lim (A / n)), Lv (lim (A % n))]) := by
  have room : ∀ x, 0 ≤ x → x < n → (lim x).length ≤ 100000 := fun x h0 h1 => by
    have h := nv_lt (lim_Lm n (by omega))
    rw [nv_lim n (by omega)] at h
    exact Nat.le_trans (lim_len x h0 _ (by omega)) ln
  have room2 : ∀ x, 0 ≤ x → x < 2 * n → (lim x).length ≤ 100001 := fun x h0 h1 => by
    have h := nv_lt (lim_Lm n (by omega))
    rw [nv_lim n (by omega)] at h
    exact Nat.le_trans (lim_len x h0 ((lim n).length + 1) (by rw [B_succ]; omega)) (by omega)
  refine PureF.E (CallP.of_body (C_ok W0) B.tumblerref01_divL rfl rfl rfl ?_)
  have hA0 : A / 2 ^ (16 * (lim A).length) = 0 := by
    have h := nv_lt (lim_Lm A hA)
    rw [nv_lim A hA, B_two] at h
    exact Int.ediv_eq_zero_of_lt hA h
  have ew : IntKind.i64.wrap (IntKind.i64.wrap (16 * ((lim A).length : Int)) - 1) = ((16 * (lim A).length : Nat) : Int) - 1 := by
    rw [wrap_in (x := 16 * ((lim A).length : Int)) (by omega), wrap_in (by omega)]; omega
  repeat' first
    | (apply Here.norm; (first | dsimp only [Env.putR, argEnv, pure1, newPtr, applyE, hset, List.length_cons, List.length_nil, List.length_append, List.set, List.cons_append, List.nil_append] | rfl); (first | dsimp only [Env.putR, argEnv, pure1, newPtr, applyE, hset, List.length_cons, List.length_nil, List.length_append, List.set, List.cons_append, List.nil_append] | rfl))
    | refine brP.t (by assumption) ?_
    | refine brP.f (by assumption) ?_
    | refine brP.tD (by assumption) ?_
    | refine brP.fD (by assumption) ?_
    | refine brP.tN (by assumption) ?_
    | refine brP.fN (by assumption) ?_
    | refine brP.introD (fun h => ?_) (fun h => ?_)
    | refine brP.introN (fun h => ?_) (fun h => ?_)
    | refine brP.intro (fun h => ?_) (fun h => ?_)
    | refine ⟨_, _, _, _, _, rfl, rfl, rfl, Fits.mk (by first | exact Nat.le_of_ble_eq_true rfl | (dsimp only; omega)), rfl, ?_⟩
    | refine ⟨_, _, _, _, _, rfl, _, rfl, ?_⟩
    | refine ⟨_, _, _, _, _, rfl, Fits.mk (by first | exact Nat.le_of_ble_eq_true rfl | (dsimp only; omega)), _, rfl, ?_⟩
    | refine ⟨Fits.mk (by first | exact Nat.le_of_ble_eq_true rfl | (dsimp only; omega)), _, rfl, ?_⟩
    | refine draw_go (C_ok W0) (by kernel_rfl) ?_
    | refine ⟨cpt_ok (by kernel_rfl), ?_⟩
    | refine ⟨InB.mk (by first | decide | omega) (by first | decide | omega), ?_⟩
    | refine ⟨SlB.mk (by first | omega | decide) (by first | omega | decide) (by first | omega | decide), ?_⟩
    | refine ⟨ShB.mk (by first | decide | omega), ?_⟩
    | refine ⟨NzB.mk (by first | decide | omega), ?_⟩
    | refine ⟨by decide, MkB.mk (by omega) (by omega) (by omega) (by omega), ?_⟩
    | refine ⟨trivial, ?_⟩
    | refine ⟨by decide, rfl, by decide, ?_⟩
    | refine .inr ⟨by decide, _, _, _, _, _, rfl, rfl, Fits.mk (by first | exact Nat.le_of_ble_eq_true rfl | omega), ?_⟩
    | refine .inr ⟨by decide, by decide, Room.mk (by decide) (by decide), ?_⟩
    | refine .inr ⟨by decide, _, _, _, _, _, rfl, rfl, Room.mk (by omega) (by omega), .inr (.inr ⟨(by omega), rfl, rfl, rfl, (by first | omega | (simp; done) | (simp; omega)), (by omega), rfl, ?_⟩)⟩
    | refine ⟨by decide, ?_⟩
    | refine ⟨subHi_le _ _ _, ?_⟩
    | refine ⟨_, rfl, ?_⟩
    | fail
  refine loop_I (C_ok W0) (fun (p : Nat × List Int) => p.1 ≤ 16 * (lim A).length ∧ p.2.length = (lim A).length ∧ Lm p.2 ∧ nv p.2 = A / 2 ^ p.1 / n * 2 ^ p.1)
    (fun p => [(0, Lv (lim A)), (1, Lv (lim n)), (6, .slice (some ⟨0, 0, none⟩) (lim A).length (lim A).length), (7, Lv (lim (A / 2 ^ p.1 % n))), (8, .int .i64 ((p.1 : Int) - 1))]) (fun p => [.cells (u32s p.2) 1 true false Y.uint32]) (fun p => p.1)
    (16 * (lim A).length, List.replicate (lim A).length 0) ⟨Nat.le_refl _, by simp, Lm_zeros _, by simp [nv_zeros, hA0]⟩ ⟨_, rfl, ?_⟩ ?_
  · dsimp only [List.map]
    rw [hA0, Int.zero_emod]
    refine RT.ren [0] rfl rfl ?_ ?_
    all_goals (repeat' first
      | exact trivial
      | exact LTo.nil
      | refine ⟨⟨_, rfl, ?_, (fun z => by cases z)⟩, ?_⟩
      | refine BTo.cells (fun z => z) ?_
      | refine BTo.cells (fun z => by cases z) ?_
      | exact VTo.ptr (by decide)
      | exact VTo.slice (by decide)
      | exact VTo.map (by decide)
      | exact VTo.emptyN _
      | refine LTo.cons ?_ ?_
      | refine VTo.int ?_
      | refine VTo.bool ?_
      | refine VTo.string ?_
      | refine VTo.agg ?_
      | refine VTo.tuple ?_
      | exact VTo.same _
      | (with_reducible rfl)
      | exact VTo.n rfl
      | exact LTo.n rfl
      | refine LTo.n ?_
      | refine VTo.n ?_
      )
    · rw [Int.toNat_natCast, repL_one]; simp [List.map_replicate]
    · exact ew
  rintro ⟨m, q⟩ ⟨hm, hq, hl, hv⟩
  dsimp only at hm hq hl hv ⊢
  cases m with
  | zero =>
    have r0 := Int.emod_nonneg A (show n ≠ 0 by omega)
    have r1 := Int.emod_lt_of_pos A hn
    have tq : PureF (C W0) I.tumblerref01_trim [LV (u32s q) (lim A).length] (Lv (lim (nv q))) := by rw [← hq]; exact ref_trim q hl (by omega)
    have tr := ref_trim (W0 := W0) (lim (A % n)) (lim_Lm _ r0) (by have := room _ r0 r1; omega)
    rw [nv_lim _ r0] at tr
    rw [Int.pow_zero, Int.ediv_one]
    have e1 : List.take ((lim A).length * 1) (List.drop 0 (u32s q)) = u32s q := by rw [Nat.mul_one, List.drop_zero, List.take_of_length_le (by simp [hq])]
    have e2 : 0 + (lim A).length * 1 ≤ (u32s q).length := by simp [hq]
    repeat' first
      | refine brP.tD (by omega) ?_
      | refine brP.fD (by omega) ?_
      | refine brP.tN (by omega) ?_
      | refine brP.fN (by omega) ?_
      | refine (tq.give1 0 (.cons (VTo.fz' e2 e1) .nil) _).call (by first | exact trivial | exact ⟨rfl, trivial⟩ | exact ⟨rfl, rfl, trivial⟩) ?_
      | refine .inr ⟨_, tq.give1 0 (.cons (VTo.fz' e2 e1) .nil) _, (by first | exact trivial | exact ⟨rfl, trivial⟩ | exact ⟨rfl, rfl, trivial⟩), ?_⟩
      | refine (tr).call ?_
      | refine .inl ⟨_, tr, ?_⟩
      | refine tu2 ?_ ?_
      | (apply Here.norm; (first | dsimp only [Env.putR, argEnv, pure1, newPtr, applyE, hset, List.length_cons, List.length_nil, List.length_append, List.set, List.cons_append, List.nil_append] | rfl); (first | dsimp only [Env.putR, argEnv, pure1, newPtr, applyE, hset, List.length_cons, List.length_nil, List.length_append, List.set, List.cons_append, List.nil_append] | rfl))
      | refine brP.t (by assumption) ?_
      | refine brP.f (by assumption) ?_
      | refine brP.tD (by assumption) ?_
      | refine brP.fD (by assumption) ?_
      | refine brP.tN (by assumption) ?_
      | refine brP.fN (by assumption) ?_
      | refine brP.introD (fun h => ?_) (fun h => ?_)
      | refine brP.introN (fun h => ?_) (fun h => ?_)
      | refine brP.intro (fun h => ?_) (fun h => ?_)
      | refine ⟨_, _, _, _, _, rfl, rfl, rfl, Fits.mk (by first | exact Nat.le_of_ble_eq_true rfl | (dsimp only; omega)), rfl, ?_⟩
      | refine ⟨_, _, _, _, _, rfl, _, rfl, ?_⟩
      | refine ⟨_, _, _, _, _, rfl, Fits.mk (by first | exact Nat.le_of_ble_eq_true rfl | (dsimp only; omega)), _, rfl, ?_⟩
      | refine ⟨Fits.mk (by first | exact Nat.le_of_ble_eq_true rfl | (dsimp only; omega)), _, rfl, ?_⟩
      | refine draw_go (C_ok W0) (by kernel_rfl) ?_
      | refine ⟨cpt_ok (by kernel_rfl), ?_⟩
      | refine ⟨InB.mk (by first | decide | omega) (by first | decide | omega), ?_⟩
      | refine ⟨SlB.mk (by first | omega | decide) (by first | omega | decide) (by first | omega | decide), ?_⟩
      | refine ⟨ShB.mk (by first | decide | omega), ?_⟩
      | refine ⟨NzB.mk (by first | decide | omega), ?_⟩
      | refine ⟨by decide, MkB.mk (by omega) (by omega) (by omega) (by omega), ?_⟩
      | refine ⟨trivial, ?_⟩
      | refine ⟨by decide, rfl, by decide, ?_⟩
      | refine .inr ⟨by decide, _, _, _, _, _, rfl, rfl, Fits.mk (by first | exact Nat.le_of_ble_eq_true rfl | omega), ?_⟩
      | refine .inr ⟨by decide, by decide, Room.mk (by decide) (by decide), ?_⟩
      | refine .inr ⟨by decide, _, _, _, _, _, rfl, rfl, Room.mk (by omega) (by omega), .inr (.inr ⟨(by omega), rfl, rfl, rfl, (by first | omega | (simp; done) | (simp; omega)), (by omega), rfl, ?_⟩)⟩
      | refine ⟨by decide, ?_⟩
      | refine ⟨subHi_le _ _ _, ?_⟩
      | refine ⟨_, rfl, ?_⟩
      | fail
    · rw [hv, Int.pow_zero, Int.mul_one, Int.ediv_one]
    · rfl
  | succ m =>
    have hr0 := Int.emod_nonneg (A / 2 ^ (m + 1)) (show n ≠ 0 by omega)
    have hr1 := Int.emod_lt_of_pos (A / 2 ^ (m + 1)) hn
    have hb0 : A / 2 ^ m % 2 = 0 ∨ A / 2 ^ m % 2 = 1 := by omega
    obtain ⟨nl, ng⟩ := quo_next A n m hA hn _ rfl
    have lr := room _ hr0 hr1
    have bl := bit_list (lim_Lm A hA) m
    rw [nv_lim A hA] at bl
    have hmq : m / 16 < q.length := by omega
    have hqd : nv q % 2 ^ (m + 1) = 0 := by rw [hv, Int.mul_emod_left]
    obtain ⟨sv, sl⟩ := set_list hl m hmq hqd
    rw [hv] at sv
    generalize A / 2 ^ (m + 1) % n = r at *
    have dbl := ref_addL (W0 := W0) (lim r) (lim r) (lim_Lm r hr0) (lim_Lm r hr0) (by omega) (by omega)
    rw [nv_lim r hr0] at dbl
    have l2 := room2 (r + r) (by omega) (by omega)
    have inc := ref_addL (W0 := W0) (lim (r + r)) [1] (lim_Lm (r + r) (by omega)) (Lm_mk (by omega) Lm_nil) (by omega) (by simp)
    rw [nv_lim (r + r) (by omega), show nv [(1 : Int)] = 1 from rfl] at inc
    have q0 := idx16 m (by omega)
    obtain ⟨d1, d2, d3⟩ := q0
    have hk1 : ((m + 1 : Nat) : Int) - 1 = (m : Int) := by omega
    rw [hk1]
    have hol : (u32s q).length = (lim A).length := by rw [List.length_map, hq]
    have one1 : List.take (1 * 1) (List.drop 0 (putL (repL 1 [Value.int .u32 0]) (0 * 1) (Value.int .u32 1).cells.toList)) = u32s [1] := rfl
    have shl := shl_u32n (m % 16) (by omega)
    rw [← d2] at shl
    by_cases b : A / 2 ^ m % 2 = 1
    · have hb : Go.bits .and .u32 (shrV .u32 (rd (lim A) ((m / 16 : Nat) : Int)) (IntKind.u64.wrap ((m : Int).tmod 16))) 1 = 1 := by rw [d2, bl, b]
      have l3 := room2 (r + r + 1) (by omega) (by omega)
      have cm := ref_cmpL (W0 := W0) (lim (r + r + 1)) (lim n) (lim_Lm _ (by omega)) (lim_Lm n (by omega)) (by omega) (by omega)
      rw [nv_lim (r + r + 1) (by omega), nv_lim n (by omega)] at cm
      by_cases g : n ≤ r + r + 1
      · have sb := ref_subL (W0 := W0) (lim (r + r + 1)) (lim n) (lim_Lm _ (by omega)) (lim_Lm n (by omega)) (by omega) (by rw [nv_lim n (by omega), nv_lim _ (by omega)]; exact g)
        rw [nv_lim (r + r + 1) (by omega), nv_lim n (by omega)] at sb
        obtain ⟨g1, g2⟩ := ng (by omega)
        have hc : 0 ≤ cmp (r + r + 1) n := by unfold cmp; split <;> (try split) <;> omega
        repeat' first
          | refine (dbl).call ?_
          | refine .inl ⟨_, dbl, ?_⟩
          | refine (inc.give1 1 (.cons (.same _) (.cons (VTo.fz' (by decide) one1) .nil)) _).call (by first | exact trivial | exact ⟨rfl, trivial⟩ | exact ⟨rfl, rfl, trivial⟩) ?_
          | refine .inr ⟨_, inc.give1 1 (.cons (.same _) (.cons (VTo.fz' (by decide) one1) .nil)) _, (by first | exact trivial | exact ⟨rfl, trivial⟩ | exact ⟨rfl, rfl, trivial⟩), ?_⟩
          | refine (cm).call ?_
          | refine .inl ⟨_, cm, ?_⟩
          | refine (sb).call ?_
          | refine .inl ⟨_, sb, ?_⟩
          | refine ⟨_, u32s_at (i := m / 16) (by omega) (by omega), ?_⟩
          | refine ⟨_, _, _, _, _, rfl, _, u32s_at (i := m / 16) (by omega) (by omega), ?_⟩
          | (apply Here.norm; (first | dsimp only [Env.putR, argEnv, pure1, newPtr, applyE, hset, List.length_cons, List.length_nil, List.length_append, List.set, List.cons_append, List.nil_append] | rfl); (first | dsimp only [Env.putR, argEnv, pure1, newPtr, applyE, hset, List.length_cons, List.length_nil, List.length_append, List.set, List.cons_append, List.nil_append] | rfl))
          | refine brP.t (by assumption) ?_
          | refine brP.f (by assumption) ?_
          | refine brP.tD (by assumption) ?_
          | refine brP.fD (by assumption) ?_
          | refine brP.tN (by assumption) ?_
          | refine brP.fN (by assumption) ?_
          | refine brP.introD (fun h => ?_) (fun h => ?_)
          | refine brP.introN (fun h => ?_) (fun h => ?_)
          | refine brP.intro (fun h => ?_) (fun h => ?_)
          | refine ⟨_, _, _, _, _, rfl, rfl, rfl, Fits.mk (by first | exact Nat.le_of_ble_eq_true rfl | (dsimp only; omega)), rfl, ?_⟩
          | refine ⟨_, _, _, _, _, rfl, _, rfl, ?_⟩
          | refine ⟨_, _, _, _, _, rfl, Fits.mk (by first | exact Nat.le_of_ble_eq_true rfl | (dsimp only; omega)), _, rfl, ?_⟩
          | refine ⟨Fits.mk (by first | exact Nat.le_of_ble_eq_true rfl | (dsimp only; omega)), _, rfl, ?_⟩
          | refine draw_go (C_ok W0) (by kernel_rfl) ?_
          | refine ⟨cpt_ok (by kernel_rfl), ?_⟩
          | refine ⟨InB.mk (by first | decide | omega) (by first | decide | omega), ?_⟩
          | refine ⟨SlB.mk (by first | omega | decide) (by first | omega | decide) (by first | omega | decide), ?_⟩
          | refine ⟨ShB.mk (by first | decide | omega), ?_⟩
          | refine ⟨NzB.mk (by first | decide | omega), ?_⟩
          | refine ⟨by decide, MkB.mk (by omega) (by omega) (by omega) (by omega), ?_⟩
          | refine ⟨trivial, ?_⟩
          | refine ⟨by decide, rfl, by decide, ?_⟩
          | refine .inr ⟨by decide, _, _, _, _, _, rfl, rfl, Fits.mk (by first | exact Nat.le_of_ble_eq_true rfl | omega), ?_⟩
          | refine .inr ⟨by decide, by decide, Room.mk (by decide) (by decide), ?_⟩
          | refine .inr ⟨by decide, _, _, _, _, _, rfl, rfl, Room.mk (by omega) (by omega), .inr (.inr ⟨(by omega), rfl, rfl, rfl, (by first | omega | (simp; done) | (simp; omega)), (by omega), rfl, ?_⟩)⟩
          | refine ⟨by decide, ?_⟩
          | refine ⟨subHi_le _ _ _, ?_⟩
          | refine ⟨_, rfl, ?_⟩
          | fail
        apply Again.mk (m, q.set (m / 16) (Go.bits .or .u32 (rd q ((m / 16 : Nat) : Int)) (2 ^ (m % 16))))
        · exact ⟨by dsimp only; omega, by rw [List.length_set]; exact hq, sl, by dsimp only; rw [sv, g2]⟩
        · dsimp only; omega
        · refine ⟨_, rfl, ?_⟩
          dsimp only [List.map]
          rw [g1]
          refine RT.ren [0] rfl rfl ?_ ?_
          all_goals (repeat' first
            | exact trivial
            | exact LTo.nil
            | refine ⟨⟨_, rfl, ?_, (fun z => by cases z)⟩, ?_⟩
            | refine BTo.cells (fun z => z) ?_
            | refine BTo.cells (fun z => by cases z) ?_
            | exact VTo.ptr (by decide)
            | exact VTo.slice (by decide)
            | exact VTo.map (by decide)
            | exact VTo.emptyN _
            | refine LTo.cons ?_ ?_
            | refine VTo.int ?_
            | refine VTo.bool ?_
            | refine VTo.string ?_
            | refine VTo.agg ?_
            | refine VTo.tuple ?_
            | exact VTo.same _
            | (with_reducible rfl)
            | exact VTo.n rfl
            | exact LTo.n rfl
            | refine LTo.n ?_
            | refine VTo.n ?_
            )
          · exact putL_u32' (by omega) (by omega) (by rw [shl])
          · exact congrArg (fun x => Lv (lim x)) (by omega)
          · exact d3
      · obtain ⟨g1, g2⟩ := nl (by omega)
        have hc : ¬ 0 ≤ cmp (r + r + 1) n := by unfold cmp; split <;> (try split) <;> omega
        repeat' first
          | refine (dbl).call ?_
          | refine .inl ⟨_, dbl, ?_⟩
          | refine (inc.give1 1 (.cons (.same _) (.cons (VTo.fz' (by decide) one1) .nil)) _).call (by first | exact trivial | exact ⟨rfl, trivial⟩ | exact ⟨rfl, rfl, trivial⟩) ?_
          | refine .inr ⟨_, inc.give1 1 (.cons (.same _) (.cons (VTo.fz' (by decide) one1) .nil)) _, (by first | exact trivial | exact ⟨rfl, trivial⟩ | exact ⟨rfl, rfl, trivial⟩), ?_⟩
          | refine (cm).call ?_
          | refine .inl ⟨_, cm, ?_⟩
          | refine ⟨_, u32s_at (i := m / 16) (by omega) (by omega), ?_⟩
          | (apply Here.norm; (first | dsimp only [Env.putR, argEnv, pure1, newPtr, applyE, hset, List.length_cons, List.length_nil, List.length_append, List.set, List.cons_append, List.nil_append] | rfl); (first | dsimp only [Env.putR, argEnv, pure1, newPtr, applyE, hset, List.length_cons, List.length_nil, List.length_append, List.set, List.cons_append, List.nil_append] | rfl))
          | refine brP.t (by assumption) ?_
          | refine brP.f (by assumption) ?_
          | refine brP.tD (by assumption) ?_
          | refine brP.fD (by assumption) ?_
          | refine brP.tN (by assumption) ?_
          | refine brP.fN (by assumption) ?_
          | refine brP.introD (fun h => ?_) (fun h => ?_)
          | refine brP.introN (fun h => ?_) (fun h => ?_)
          | refine brP.intro (fun h => ?_) (fun h => ?_)
          | refine ⟨_, _, _, _, _, rfl, rfl, rfl, Fits.mk (by first | exact Nat.le_of_ble_eq_true rfl | (dsimp only; omega)), rfl, ?_⟩
          | refine ⟨_, _, _, _, _, rfl, _, rfl, ?_⟩
          | refine ⟨_, _, _, _, _, rfl, Fits.mk (by first | exact Nat.le_of_ble_eq_true rfl | (dsimp only; omega)), _, rfl, ?_⟩
          | refine ⟨Fits.mk (by first | exact Nat.le_of_ble_eq_true rfl | (dsimp only; omega)), _, rfl, ?_⟩
          | refine draw_go (C_ok W0) (by kernel_rfl) ?_
          | refine ⟨cpt_ok (by kernel_rfl), ?_⟩
          | refine ⟨InB.mk (by first | decide | omega) (by first | decide | omega), ?_⟩
          | refine ⟨SlB.mk (by first | omega | decide) (by first | omega | decide) (by first | omega | decide), ?_⟩
          | refine ⟨ShB.mk (by first | decide | omega), ?_⟩
          | refine ⟨NzB.mk (by first | decide | omega), ?_⟩
          | refine ⟨by decide, MkB.mk (by omega) (by omega) (by omega) (by omega), ?_⟩
          | refine ⟨trivial, ?_⟩
          | refine ⟨by decide, rfl, by decide, ?_⟩
          | refine .inr ⟨by decide, _, _, _, _, _, rfl, rfl, Fits.mk (by first | exact Nat.le_of_ble_eq_true rfl | omega), ?_⟩
          | refine .inr ⟨by decide, by decide, Room.mk (by decide) (by decide), ?_⟩
          | refine .inr ⟨by decide, _, _, _, _, _, rfl, rfl, Room.mk (by omega) (by omega), .inr (.inr ⟨(by omega), rfl, rfl, rfl, (by first | omega | (simp; done) | (simp; omega)), (by omega), rfl, ?_⟩)⟩
          | refine ⟨by decide, ?_⟩
          | refine ⟨subHi_le _ _ _, ?_⟩
          | refine ⟨_, rfl, ?_⟩
          | fail
        apply Again.mk (m, q)
        · exact ⟨by dsimp only; omega, hq, hl, by dsimp only; rw [hv, g2]⟩
        · dsimp only; omega
        · refine ⟨_, rfl, ?_⟩
          dsimp only [List.map]
          rw [g1]
          refine RT.ren [0] rfl rfl ?_ ?_
          all_goals (repeat' first
            | exact trivial
            | exact LTo.nil
            | refine ⟨⟨_, rfl, ?_, (fun z => by cases z)⟩, ?_⟩
            | refine BTo.cells (fun z => z) ?_
            | refine BTo.cells (fun z => by cases z) ?_
            | exact VTo.ptr (by decide)
            | exact VTo.slice (by decide)
            | exact VTo.map (by decide)
            | exact VTo.emptyN _
            | refine LTo.cons ?_ ?_
            | refine VTo.int ?_
            | refine VTo.bool ?_
            | refine VTo.string ?_
            | refine VTo.agg ?_
            | refine VTo.tuple ?_
            | exact VTo.same _
            | (with_reducible rfl)
            | exact VTo.n rfl
            | exact LTo.n rfl
            | refine LTo.n ?_
            | refine VTo.n ?_
            )
          · exact congrArg (fun x => Lv (lim x)) (by omega)
          · exact d3
    · have hb : ¬ Go.bits .and .u32 (shrV .u32 (rd (lim A) ((m / 16 : Nat) : Int)) (IntKind.u64.wrap ((m : Int).tmod 16))) 1 = 1 := by rw [d2, bl]; exact b
      have l3 := room2 (r + r) (by omega) (by omega)
      have cm := ref_cmpL (W0 := W0) (lim (r + r)) (lim n) (lim_Lm _ (by omega)) (lim_Lm n (by omega)) (by omega) (by omega)
      rw [nv_lim (r + r) (by omega), nv_lim n (by omega)] at cm
      by_cases g : n ≤ r + r
      · have sb := ref_subL (W0 := W0) (lim (r + r)) (lim n) (lim_Lm _ (by omega)) (lim_Lm n (by omega)) (by omega) (by rw [nv_lim n (by omega), nv_lim _ (by omega)]; exact g)
        rw [nv_lim (r + r) (by omega), nv_lim n (by omega)] at sb
        obtain ⟨g1, g2⟩ := ng (by omega)
        have hc : 0 ≤ cmp (r + r) n := by unfold cmp; split <;> (try split) <;> omega
        repeat' first
          | refine (dbl).call ?_
          | refine .inl ⟨_, dbl, ?_⟩
          | refine (inc.give1 1 (.cons (.same _) (.cons (VTo.fz' (by decide) one1) .nil)) _).call (by first | exact trivial | exact ⟨rfl, trivial⟩ | exact ⟨rfl, rfl, trivial⟩) ?_
          | refine .inr ⟨_, inc.give1 1 (.cons (.same _) (.cons (VTo.fz' (by decide) one1) .nil)) _, (by first | exact trivial | exact ⟨rfl, trivial⟩ | exact ⟨rfl, rfl, trivial⟩), ?_⟩
          | refine (cm).call ?_
          | refine .inl ⟨_, cm, ?_⟩
          | refine (sb).call ?_
          | refine .inl ⟨_, sb, ?_⟩
          | refine ⟨_, u32s_at (i := m / 16) (by omega) (by omega), ?_⟩
          | refine ⟨_, _, _, _, _, rfl, _, u32s_at (i := m / 16) (by omega) (by omega), ?_⟩
          | (apply Here.norm; (first | dsimp only [Env.putR, argEnv, pure1, newPtr, applyE, hset, List.length_cons, List.length_nil, List.length_append, List.set, List.cons_append, List.nil_append] | rfl); (first | dsimp only [Env.putR, argEnv, pure1, newPtr, applyE, hset, List.length_cons, List.length_nil, List.length_append, List.set, List.cons_append, List.nil_append] | rfl))
          | refine brP.t (by assumption) ?_
          | refine brP.f (by assumption) ?_
          | refine brP.tD (by assumption) ?_
          | refine brP.fD (by assumption) ?_
          | refine brP.tN (by assumption) ?_
          | refine brP.fN (by assumption) ?_
          | refine brP.introD (fun h => ?_) (fun h => ?_)
          | refine brP.introN (fun h => ?_) (fun h => ?_)
          | refine brP.intro (fun h => ?_) (fun h => ?_)
          | refine ⟨_, _, _, _, _, rfl, rfl, rfl, Fits.mk (by first | exact Nat.le_of_ble_eq_true rfl | (dsimp only; omega)), rfl, ?_⟩
          | refine ⟨_, _, _, _, _, rfl, _, rfl, ?_⟩
          | refine ⟨_, _, _, _, _, rfl, Fits.mk (by first | exact Nat.le_of_ble_eq_true rfl | (dsimp only; omega)), _, rfl, ?_⟩
          | refine ⟨Fits.mk (by first | exact Nat.le_of_ble_eq_true rfl | (dsimp only; omega)), _, rfl, ?_⟩
          | refine draw_go (C_ok W0) (by kernel_rfl) ?_
          | refine ⟨cpt_ok (by kernel_rfl), ?_⟩
          | refine ⟨InB.mk (by first | decide | omega) (by first | decide | omega), ?_⟩
          | refine ⟨SlB.mk (by first | omega | decide) (by first | omega | decide) (by first | omega | decide), ?_⟩
          | refine ⟨ShB.mk (by first | decide | omega), ?_⟩
          | refine ⟨NzB.mk (by first | decide | omega), ?_⟩
          | refine ⟨by decide, MkB.mk (by omega) (by omega) (by omega) (by omega), ?_⟩
          | refine ⟨trivial, ?_⟩
          | refine ⟨by decide, rfl, by decide, ?_⟩
          | refine .inr ⟨by decide, _, _, _, _, _, rfl, rfl, Fits.mk (by first | exact Nat.le_of_ble_eq_true rfl | omega), ?_⟩
          | refine .inr ⟨by decide, by decide, Room.mk (by decide) (by decide), ?_⟩
          | refine .inr ⟨by decide, _, _, _, _, _, rfl, rfl, Room.mk (by omega) (by omega), .inr (.inr ⟨(by omega), rfl, rfl, rfl, (by first | omega | (simp; done) | (simp; omega)), (by omega), rfl, ?_⟩)⟩
          | refine ⟨by decide, ?_⟩
          | refine ⟨subHi_le _ _ _, ?_⟩
          | refine ⟨_, rfl, ?_⟩
          | fail
        apply Again.mk (m, q.set (m / 16) (Go.bits .or .u32 (rd q ((m / 16 : Nat) : Int)) (2 ^ (m % 16))))
        · exact ⟨by dsimp only; omega, by rw [List.length_set]; exact hq, sl, by dsimp only; rw [sv, g2]⟩
        · dsimp only; omega
        · refine ⟨_, rfl, ?_⟩
          dsimp only [List.map]
          rw [g1]
          refine RT.ren [0] rfl rfl ?_ ?_
          all_goals (repeat' first
            | exact trivial
            | exact LTo.nil
            | refine ⟨⟨_, rfl, ?_, (fun z => by cases z)⟩, ?_⟩
            | refine BTo.cells (fun z => z) ?_
            | refine BTo.cells (fun z => by cases z) ?_
            | exact VTo.ptr (by decide)
            | exact VTo.slice (by decide)
            | exact VTo.map (by decide)
            | exact VTo.emptyN _
            | refine LTo.cons ?_ ?_
            | refine VTo.int ?_
            | refine VTo.bool ?_
            | refine VTo.string ?_
            | refine VTo.agg ?_
            | refine VTo.tuple ?_
            | exact VTo.same _
            | (with_reducible rfl)
            | exact VTo.n rfl
            | exact LTo.n rfl
            | refine LTo.n ?_
            | refine VTo.n ?_
            )
          · exact putL_u32' (by omega) (by omega) (by rw [shl])
          · exact congrArg (fun x => Lv (lim x)) (by omega)
          · exact d3
      · obtain ⟨g1, g2⟩ := nl (by omega)
        have hc : ¬ 0 ≤ cmp (r + r) n := by unfold cmp; split <;> (try split) <;> omega
        repeat' first
          | refine (dbl).call ?_
          | refine .inl ⟨_, dbl, ?_⟩
          | refine (inc.give1 1 (.cons (.same _) (.cons (VTo.fz' (by decide) one1) .nil)) _).call (by first | exact trivial | exact ⟨rfl, trivial⟩ | exact ⟨rfl, rfl, trivial⟩) ?_
          | refine .inr ⟨_, inc.give1 1 (.cons (.same _) (.cons (VTo.fz' (by decide) one1) .nil)) _, (by first | exact trivial | exact ⟨rfl, trivial⟩ | exact ⟨rfl, rfl, trivial⟩), ?_⟩
          | refine (cm).call ?_
          | refine .inl ⟨_, cm, ?_⟩
          | refine ⟨_, u32s_at (i := m / 16) (by omega) (by omega), ?_⟩
          | (apply Here.norm; (first | dsimp only [Env.putR, argEnv, pure1, newPtr, applyE, hset, List.length_cons, List.length_nil, List.length_append, List.set, List.cons_append, List.nil_append] | rfl); (first | dsimp only [Env.putR, argEnv, pure1, newPtr, applyE, hset, List.length_cons, List.length_nil, List.length_append, List.set, List.cons_append, List.nil_append] | rfl))
          | refine brP.t (by assumption) ?_
          | refine brP.f (by assumption) ?_
          | refine brP.tD (by assumption) ?_
          | refine brP.fD (by assumption) ?_
          | refine brP.tN (by assumption) ?_
          | refine brP.fN (by assumption) ?_
          | refine brP.introD (fun h => ?_) (fun h => ?_)
          | refine brP.introN (fun h => ?_) (fun h => ?_)
          | refine brP.intro (fun h => ?_) (fun h => ?_)
          | refine ⟨_, _, _, _, _, rfl, rfl, rfl, Fits.mk (by first | exact Nat.le_of_ble_eq_true rfl | (dsimp only; omega)), rfl, ?_⟩
          | refine ⟨_, _, _, _, _, rfl, _, rfl, ?_⟩
          | refine ⟨_, _, _, _, _, rfl, Fits.mk (by first | exact Nat.le_of_ble_eq_true rfl | (dsimp only; omega)), _, rfl, ?_⟩
          | refine ⟨Fits.mk (by first | exact Nat.le_of_ble_eq_true rfl | (dsimp only; omega)), _, rfl, ?_⟩
          | refine draw_go (C_ok W0) (by kernel_rfl) ?_
          | refine ⟨cpt_ok (by kernel_rfl), ?_⟩
          | refine ⟨InB.mk (by first | decide | omega) (by first | decide | omega), ?_⟩
          | refine ⟨SlB.mk (by first | omega | decide) (by first | omega | decide) (by first | omega | decide), ?_⟩
          | refine ⟨ShB.mk (by first | decide | omega), ?_⟩
          | refine ⟨NzB.mk (by first | decide | omega), ?_⟩
          | refine ⟨by decide, MkB.mk (by omega) (by omega) (by omega) (by omega), ?_⟩
          | refine ⟨trivial, ?_⟩
          | refine ⟨by decide, rfl, by decide, ?_⟩
          | refine .inr ⟨by decide, _, _, _, _, _, rfl, rfl, Fits.mk (by first | exact Nat.le_of_ble_eq_true rfl | omega), ?_⟩
          | refine .inr ⟨by decide, by decide, Room.mk (by decide) (by decide), ?_⟩
          | refine .inr ⟨by decide, _, _, _, _, _, rfl, rfl, Room.mk (by omega) (by omega), .inr (.inr ⟨(by omega), rfl, rfl, rfl, (by first | omega | (simp; done) | (simp; omega)), (by omega), rfl, ?_⟩)⟩
          | refine ⟨by decide, ?_⟩
          | refine ⟨subHi_le _ _ _, ?_⟩
          | refine ⟨_, rfl, ?_⟩
          | fail
        apply Again.mk (m, q)
        · exact ⟨by dsimp only; omega, hq, hl, by dsimp only; rw [hv, g2]⟩
        · dsimp only; omega
        · refine ⟨_, rfl, ?_⟩
          dsimp only [List.map]
          rw [g1]
          refine RT.ren [0] rfl rfl ?_ ?_
          all_goals (repeat' first
            | exact trivial
            | exact LTo.nil
            | refine ⟨⟨_, rfl, ?_, (fun z => by cases z)⟩, ?_⟩
            | refine BTo.cells (fun z => z) ?_
            | refine BTo.cells (fun z => by cases z) ?_
            | exact VTo.ptr (by decide)
            | exact VTo.slice (by decide)
            | exact VTo.map (by decide)
            | exact VTo.emptyN _
            | refine LTo.cons ?_ ?_
            | refine VTo.int ?_
            | refine VTo.bool ?_
            | refine VTo.string ?_
            | refine VTo.agg ?_
            | refine VTo.tuple ?_
            | exact VTo.same _
            | (with_reducible rfl)
            | exact VTo.n rfl
            | exact LTo.n rfl
            | refine LTo.n ?_
            | refine VTo.n ?_
            )
          · exact congrArg (fun x => Lv (lim x)) (by omega)
          · exact d3
end Go.Proofs.YtcfhmbhlibhlnaaDoor
