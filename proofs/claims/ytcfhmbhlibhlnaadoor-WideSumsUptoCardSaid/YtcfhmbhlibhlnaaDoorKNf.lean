import Derived.Test.YtcfhmbhlibhlnaaDoorKNe
set_option linter.unusedVariables false
set_option linter.unusedSimpArgs false
namespace Go.Proofs.YtcfhmbhlibhlnaaDoor
open Go Go.Den Go.RowKit
variable {W0 : World}
theorem place_u (j : Nat) (h : j < 4) : IntKind.u64.wrap (16 * IntKind.u64.wrap (j : Int)) = ((16 * j : Nat) : Int) := by
  rw [wrap_u (x := (j : Int)) (by omega), wrap_u (by omega)]; omega
theorem limb_at (x : Int) (h0 : 0 ≤ x) (h1 : x < 18446744073709551616) (j : Nat) (h : j < 4) :
    Go.bits .and .u32 (IntKind.u32.wrap (shrV .u64 x (IntKind.u64.wrap (16 * IntKind.u64.wrap (j : Int))))) 65535 = x / B j % 65536 := by
  rw [place_u j h, shr_at _ _ (by omega) (by omega), Int.toNat_natCast, ← B_two, wr_u32, and_u32 _ (by omega) (by omega)]
  omega
theorem from_neg (v : Int) (hR : R v) (hn : v / 18446744073709551616 < 0) :
    Go.bits .xor .u64 (if IntKind.u64.signed = true then -1 else IntKind.u64.max) (v % 18446744073709551616) = 18446744073709551615 - v % 18446744073709551616 ∧ Go.bits .xor .u64 (if IntKind.u64.signed = true then -1 else IntKind.u64.max) (IntKind.u64.wrap (v / 18446744073709551616)) = 18446744073709551615 - v / 18446744073709551616 % 18446744073709551616 ∧ mag v = -v := by
  refine ⟨xor_all _ (by omega) (by omega), ?_, mag_neg (by omega)⟩
  rw [wr_u64]
  exact xor_all _ (by omega) (by omega)
theorem lo_step (x : Int) (h0 : 0 ≤ x) (o : List Int) (j : Nat) (y : Int) (hj : o.length = j) (hv : nv o = x % B j) (hy : y = x / B j % 65536) (hl : Lm o) : Lm (o ++ [y]) ∧ nv (o ++ [y]) = x % B (j + 1) := by
  have dg := digit_range x j
  rw [hy]
  exact ⟨Lm_snoc hl dg, by rw [nv_snoc, hv, hj, mod_succ _ _ h0]⟩
theorem hi_step (lo x : Int) (h0 : 0 ≤ x) (o : List Int) (j : Nat) (y : Int) (hj : o.length = 4 + j) (hv : nv o = lo + B 4 * (x % B j)) (hy : y = x / B j % 65536) (hl : Lm o) : Lm (o ++ [y]) ∧ nv (o ++ [y]) = lo + B 4 * (x % B (j + 1)) := by
  have dg := digit_range x j
  rw [hy]
  refine ⟨Lm_snoc hl dg, ?_⟩
  rw [nv_snoc, hv, hj, mod_succ _ _ h0, B_add, Int.mul_add, Int.mul_assoc]; omega
abbrev num0 : ABlk := .cells [.bool false, .slice none 0 0] 1 true false Y.tumblerref01_Num
set_option maxHeartbeats 2000000 in
theorem ref_From (v : Int) (hR : R v) : PureF (C W0) I.tumblerref01_From [wv v] (numV v) := by
  have hR' := hR
  unfold R at hR'
  refine PureF.E (CallP.of_body (C_ok W0) B.tumblerref01_From rfl rfl rfl ?_)
  repeat' first
    | (apply Here.norm; (first | dsimp only [Env.putR, argEnv, pure1, newPtr, applyE, hset, List.length_cons, List.length_nil, List.length_append, List.set, List.cons_append, List.nil_append] | rfl); (first | dsimp only [Env.putR, argEnv, pure1, newPtr, applyE, hset, List.length_cons, List.length_nil, List.length_append, List.set, List.cons_append, List.nil_append] | rfl))
    | refine brP.t (by assumption) ?_
    | refine brP.f (by assumption) ?_
    | refine brP.tD (by assumption) ?_
    | refine brP.fD (by assumption) ?_
    | refine brP.tN (by assumption) ?_
    | refine brP.fN (by assumption) ?_
    | refine brP.introD (fun h => ?_) (fun h => ?_)
    | refine brP.introN (fun h => ?_) (fun h => ?_)
    | refine brP.intro (fun h => ?_) (fun h => ?_)
    | refine ⟨_, _, _, _, _, rfl, rfl, rfl, Fits.mk (by first | exact Nat.le_of_ble_eq_true rfl | (dsimp only; omega)), rfl, ?_⟩
    | refine ⟨_, _, _, _, _, rfl, _, rfl, ?_⟩
    | refine ⟨_, _, _, _, _, rfl, Fits.mk (by first | exact Nat.le_of_ble_eq_true rfl | (dsimp only; omega)), _, rfl, ?_⟩
    | refine ⟨Fits.mk (by first | exact Nat.le_of_ble_eq_true rfl | (dsimp only; omega)), _, rfl, ?_⟩
    | refine draw_go (C_ok W0) (by kernel_rfl) ?_
    | refine ⟨cpt_ok (by kernel_rfl), ?_⟩
    | refine ⟨InB.mk (by first | decide | omega) (by first | decide | omega), ?_⟩
    | refine ⟨SlB.mk (by first | omega | decide) (by first | omega | decide) (by first | omega | decide), ?_⟩
    | refine ⟨ShB.mk (by first | decide | omega), ?_⟩
    | refine ⟨NzB.mk (by first | decide | omega), ?_⟩
    | refine ⟨by decide, MkB.mk (by omega) (by omega) (by omega) (by omega), ?_⟩
    | refine ⟨trivial, ?_⟩
    | refine ⟨by decide, rfl, by decide, ?_⟩
    | refine .inr ⟨by decide, _, _, _, _, _, rfl, rfl, Fits.mk (by first | exact Nat.le_of_ble_eq_true rfl | omega), ?_⟩
    | refine .inr ⟨by decide, by decide, Room.mk (by decide) (by decide), ?_⟩
    | refine .inr ⟨by decide, _, _, _, _, _, rfl, rfl, Room.mk (by omega) (by omega), .inr (.inr ⟨(by omega), rfl, rfl, rfl, (by first | omega | (simp; done) | (simp; omega)), (by omega), rfl, ?_⟩)⟩
    | refine ⟨by decide, ?_⟩
    | refine ⟨subHi_le _ _ _, ?_⟩
    | refine ⟨_, rfl, ?_⟩
    | fail
  · obtain ⟨x1, x2, x3⟩ := from_neg v hR ‹_›
    rw [x1, wr_u64] at h
    refine loop_I (C_ok W0) (fun (o : List Int) => o.length ≤ 4 ∧ Lm o ∧ nv o = mag v % 18446744073709551616 % B o.length)
      (fun o => [(2, .pointer (some ⟨0, 0, none⟩)), (3, gsV 1 o), (4, .int .u64 (mag v / 18446744073709551616)), (5, .int .u64 (mag v % 18446744073709551616)), (6, .bool (decide (v / 18446744073709551616 < 0))), (7, .int .i64 o.length)])
      (fun o => [num0, gbV o]) (fun o => 4 - o.length) [] ⟨by simp, Lm_nil, by simp [nv, B_zero, Int.emod_one]⟩ ⟨_, rfl, RT.trans (h1 := [num0]) ?_ .pad⟩ ?_
    · dsimp only [List.map]
      refine RT.ren [1] rfl rfl ?_ ?_
      all_goals (repeat' first
        | exact trivial
        | exact LTo.nil
        | refine ⟨⟨_, rfl, ?_, (fun z => by cases z)⟩, ?_⟩
        | refine BTo.cells (fun z => z) ?_
        | refine BTo.cells (fun z => by cases z) ?_
        | exact VTo.ptr (by decide)
        | exact VTo.slice (by decide)
        | exact VTo.map (by decide)
        | exact VTo.emptyN _
        | refine LTo.cons ?_ ?_
        | refine VTo.int ?_
        | refine VTo.bool ?_
        | refine VTo.string ?_
        | refine VTo.agg ?_
        | refine VTo.tuple ?_
        | exact VTo.same _
        | (with_reducible rfl)
        | exact VTo.n rfl
        | exact LTo.n rfl
        | refine LTo.n ?_
        | refine VTo.n ?_
        )
      · rw [x2, wr_u64, x3]; omega
      · rw [x1, wr_u64, x3]; omega
      · rfl
    intro o ⟨ho, hl, hv⟩
    have hm0 := mag_nonneg v
    have hlo : 0 ≤ mag v % 18446744073709551616 := by omega
    cases o with
    | nil =>
      have lm := limb_at (mag v % 18446744073709551616) hlo (by omega) 0 (by decide)
      have hpl := place_u 0 (by decide)
      have st := lo_step _ hlo [] 0 _ rfl hv rfl hl
      repeat' first
        | refine brP.tD (by omega) ?_
        | refine brP.fD (by omega) ?_
        | refine brP.tN (by omega) ?_
        | refine brP.fN (by omega) ?_
        | (apply Here.norm; (first | dsimp only [Env.putR, argEnv, pure1, newPtr, applyE, hset, List.length_cons, List.length_nil, List.length_append, List.set, List.cons_append, List.nil_append] | rfl); (first | dsimp only [Env.putR, argEnv, pure1, newPtr, applyE, hset, List.length_cons, List.length_nil, List.length_append, List.set, List.cons_append, List.nil_append] | rfl))
        | refine brP.t (by assumption) ?_
        | refine brP.f (by assumption) ?_
        | refine brP.tD (by assumption) ?_
        | refine brP.fD (by assumption) ?_
        | refine brP.tN (by assumption) ?_
        | refine brP.fN (by assumption) ?_
        | refine brP.introD (fun h => ?_) (fun h => ?_)
        | refine brP.introN (fun h => ?_) (fun h => ?_)
        | refine brP.intro (fun h => ?_) (fun h => ?_)
        | refine ⟨_, _, _, _, _, rfl, rfl, rfl, Fits.mk (by first | exact Nat.le_of_ble_eq_true rfl | (dsimp only; omega)), rfl, ?_⟩
        | refine ⟨_, _, _, _, _, rfl, _, rfl, ?_⟩
        | refine ⟨_, _, _, _, _, rfl, Fits.mk (by first | exact Nat.le_of_ble_eq_true rfl | (dsimp only; omega)), _, rfl, ?_⟩
        | refine ⟨Fits.mk (by first | exact Nat.le_of_ble_eq_true rfl | (dsimp only; omega)), _, rfl, ?_⟩
        | refine draw_go (C_ok W0) (by kernel_rfl) ?_
        | refine ⟨cpt_ok (by kernel_rfl), ?_⟩
        | refine ⟨InB.mk (by first | decide | omega) (by first | decide | omega), ?_⟩
        | refine ⟨SlB.mk (by first | omega | decide) (by first | omega | decide) (by first | omega | decide), ?_⟩
        | refine ⟨ShB.mk (by first | decide | omega), ?_⟩
        | refine ⟨NzB.mk (by first | decide | omega), ?_⟩
        | refine ⟨by decide, MkB.mk (by omega) (by omega) (by omega) (by omega), ?_⟩
        | refine ⟨trivial, ?_⟩
        | refine ⟨by decide, rfl, by decide, ?_⟩
        | refine .inr ⟨by decide, _, _, _, _, _, rfl, rfl, Fits.mk (by first | exact Nat.le_of_ble_eq_true rfl | omega), ?_⟩
        | refine .inr ⟨by decide, by decide, Room.mk (by decide) (by decide), ?_⟩
        | refine .inr ⟨by decide, _, _, _, _, _, rfl, rfl, Room.mk (by omega) (by omega), .inr (.inr ⟨(by omega), rfl, rfl, rfl, (by first | omega | (simp; done) | (simp; omega)), (by omega), rfl, ?_⟩)⟩
        | refine ⟨by decide, ?_⟩
        | refine ⟨subHi_le _ _ _, ?_⟩
        | refine ⟨_, rfl, ?_⟩
        | fail
      apply Again.mk ([] ++ [mag v % 18446744073709551616 / B 0 % 65536])
      · exact ⟨by simp, st.1, st.2⟩
      · simp
      · refine ⟨_, rfl, ?_⟩
        dsimp only [List.map]
        rw [gsV_snoc, gbV_snoc]
        refine RT.ren [0, 3] rfl rfl ?_ ?_
        all_goals (repeat' first
          | exact trivial
          | exact LTo.nil
          | refine ⟨⟨_, rfl, ?_, (fun z => by cases z)⟩, ?_⟩
          | refine BTo.cells (fun z => z) ?_
          | refine BTo.cells (fun z => by cases z) ?_
          | exact VTo.ptr (by decide)
          | exact VTo.slice (by decide)
          | exact VTo.map (by decide)
          | exact VTo.emptyN _
          | refine LTo.cons ?_ ?_
          | refine VTo.int ?_
          | refine VTo.bool ?_
          | refine VTo.string ?_
          | refine VTo.agg ?_
          | refine VTo.tuple ?_
          | exact VTo.same _
          | (with_reducible rfl)
          | exact VTo.n rfl
          | exact LTo.n rfl
          | refine LTo.n ?_
          | refine VTo.n ?_
          )
        · exact lm
        · exact len_snoc rfl (by decide)
    | cons x r =>
      have hcl : (x :: r).length = r.length + 1 := rfl
      have hol : (u32s (x :: r)).length = r.length + 1 := by simp
      by_cases g : (x :: r).length < 4
      · have lm := limb_at (mag v % 18446744073709551616) hlo (by omega) (x :: r).length g
        have hpl := place_u (x :: r).length g
        have st := lo_step _ hlo (x :: r) (x :: r).length _ rfl hv rfl hl
        rw [hcl] at hpl
        repeat' first
          | refine brP.tD (by omega) ?_
          | refine brP.fD (by omega) ?_
          | refine brP.tN (by omega) ?_
          | refine brP.fN (by omega) ?_
          | (apply Here.norm; (first | dsimp only [Env.putR, argEnv, pure1, newPtr, applyE, hset, List.length_cons, List.length_nil, List.length_append, List.set, List.cons_append, List.nil_append] | rfl); (first | dsimp only [Env.putR, argEnv, pure1, newPtr, applyE, hset, List.length_cons, List.length_nil, List.length_append, List.set, List.cons_append, List.nil_append] | rfl))
          | refine brP.t (by assumption) ?_
          | refine brP.f (by assumption) ?_
          | refine brP.tD (by assumption) ?_
          | refine brP.fD (by assumption) ?_
          | refine brP.tN (by assumption) ?_
          | refine brP.fN (by assumption) ?_
          | refine brP.introD (fun h => ?_) (fun h => ?_)
          | refine brP.introN (fun h => ?_) (fun h => ?_)
          | refine brP.intro (fun h => ?_) (fun h => ?_)
          | refine ⟨_, _, _, _, _, rfl, rfl, rfl, Fits.mk (by first | exact Nat.le_of_ble_eq_true rfl | (dsimp only; omega)), rfl, ?_⟩
          | refine ⟨_, _, _, _, _, rfl, _, rfl, ?_⟩
          | refine ⟨_, _, _, _, _, rfl, Fits.mk (by first | exact Nat.le_of_ble_eq_true rfl | (dsimp only; omega)), _, rfl, ?_⟩
          | refine ⟨Fits.mk (by first | exact Nat.le_of_ble_eq_true rfl | (dsimp only; omega)), _, rfl, ?_⟩
          | refine draw_go (C_ok W0) (by kernel_rfl) ?_
          | refine ⟨cpt_ok (by kernel_rfl), ?_⟩
          | refine ⟨InB.mk (by first | decide | omega) (by first | decide | omega), ?_⟩
          | refine ⟨SlB.mk (by first | omega | decide) (by first | omega | decide) (by first | omega | decide), ?_⟩
          | refine ⟨ShB.mk (by first | decide | omega), ?_⟩
          | refine ⟨NzB.mk (by first | decide | omega), ?_⟩
          | refine ⟨by decide, MkB.mk (by omega) (by omega) (by omega) (by omega), ?_⟩
          | refine ⟨trivial, ?_⟩
          | refine ⟨by decide, rfl, by decide, ?_⟩
          | refine .inr ⟨by decide, _, _, _, _, _, rfl, rfl, Fits.mk (by first | exact Nat.le_of_ble_eq_true rfl | omega), ?_⟩
          | refine .inr ⟨by decide, by decide, Room.mk (by decide) (by decide), ?_⟩
          | refine .inr ⟨by decide, _, _, _, _, _, rfl, rfl, Room.mk (by omega) (by omega), .inr (.inr ⟨(by omega), rfl, rfl, rfl, (by first | omega | (simp; done) | (simp; omega)), (by omega), rfl, ?_⟩)⟩
          | refine ⟨by decide, ?_⟩
          | refine ⟨subHi_le _ _ _, ?_⟩
          | refine ⟨_, rfl, ?_⟩
          | fail
        apply Again.mk (x :: r ++ [mag v % 18446744073709551616 / B (x :: r).length % 65536])
        · exact ⟨by simp only [List.length_append, List.length_cons, List.length_nil]; omega, st.1, by simpa using st.2⟩
        · simp only [List.length_append, List.length_cons, List.length_nil]; omega
        · refine ⟨_, rfl, ?_⟩
          dsimp only [List.map]
          rw [gsV_snoc, gbV_snoc]
          refine RT.ren [0, 3] rfl rfl ?_ ?_
          all_goals (repeat' first
            | exact trivial
            | exact LTo.nil
            | refine ⟨⟨_, rfl, ?_, (fun z => by cases z)⟩, ?_⟩
            | refine BTo.cells (fun z => z) ?_
            | refine BTo.cells (fun z => by cases z) ?_
            | exact VTo.ptr (by decide)
            | exact VTo.slice (by decide)
            | exact VTo.map (by decide)
            | exact VTo.emptyN _
            | refine LTo.cons ?_ ?_
            | refine VTo.int ?_
            | refine VTo.bool ?_
            | refine VTo.string ?_
            | refine VTo.agg ?_
            | refine VTo.tuple ?_
            | exact VTo.same _
            | (with_reducible rfl)
            | exact VTo.n rfl
            | exact LTo.n rfl
            | refine LTo.n ?_
            | refine VTo.n ?_
            )
          · exact u32s_snoc rfl lm
          · exact len_snoc rfl (by omega)
      · have h4 : (x :: r).length = 4 := by omega
        rw [h4, show mag v % 18446744073709551616 % B 4 = mag v % 18446744073709551616 by rw [B4]; omega] at hv
        repeat' first
          | refine brP.tD (by omega) ?_
          | refine brP.fD (by omega) ?_
          | refine brP.tN (by omega) ?_
          | refine brP.fN (by omega) ?_
          | (apply Here.norm; (first | dsimp only [Env.putR, argEnv, pure1, newPtr, applyE, hset, List.length_cons, List.length_nil, List.length_append, List.set, List.cons_append, List.nil_append] | rfl); (first | dsimp only [Env.putR, argEnv, pure1, newPtr, applyE, hset, List.length_cons, List.length_nil, List.length_append, List.set, List.cons_append, List.nil_append] | rfl))
          | refine brP.t (by assumption) ?_
          | refine brP.f (by assumption) ?_
          | refine brP.tD (by assumption) ?_
          | refine brP.fD (by assumption) ?_
          | refine brP.tN (by assumption) ?_
          | refine brP.fN (by assumption) ?_
          | refine brP.introD (fun h => ?_) (fun h => ?_)
          | refine brP.introN (fun h => ?_) (fun h => ?_)
          | refine brP.intro (fun h => ?_) (fun h => ?_)
          | refine ⟨_, _, _, _, _, rfl, rfl, rfl, Fits.mk (by first | exact Nat.le_of_ble_eq_true rfl | (dsimp only; omega)), rfl, ?_⟩
          | refine ⟨_, _, _, _, _, rfl, _, rfl, ?_⟩
          | refine ⟨_, _, _, _, _, rfl, Fits.mk (by first | exact Nat.le_of_ble_eq_true rfl | (dsimp only; omega)), _, rfl, ?_⟩
          | refine ⟨Fits.mk (by first | exact Nat.le_of_ble_eq_true rfl | (dsimp only; omega)), _, rfl, ?_⟩
          | refine draw_go (C_ok W0) (by kernel_rfl) ?_
          | refine ⟨cpt_ok (by kernel_rfl), ?_⟩
          | refine ⟨InB.mk (by first | decide | omega) (by first | decide | omega), ?_⟩
          | refine ⟨SlB.mk (by first | omega | decide) (by first | omega | decide) (by first | omega | decide), ?_⟩
          | refine ⟨ShB.mk (by first | decide | omega), ?_⟩
          | refine ⟨NzB.mk (by first | decide | omega), ?_⟩
          | refine ⟨by decide, MkB.mk (by omega) (by omega) (by omega) (by omega), ?_⟩
          | refine ⟨trivial, ?_⟩
          | refine ⟨by decide, rfl, by decide, ?_⟩
          | refine .inr ⟨by decide, _, _, _, _, _, rfl, rfl, Fits.mk (by first | exact Nat.le_of_ble_eq_true rfl | omega), ?_⟩
          | refine .inr ⟨by decide, by decide, Room.mk (by decide) (by decide), ?_⟩
          | refine .inr ⟨by decide, _, _, _, _, _, rfl, rfl, Room.mk (by omega) (by omega), .inr (.inr ⟨(by omega), rfl, rfl, rfl, (by first | omega | (simp; done) | (simp; omega)), (by omega), rfl, ?_⟩)⟩
          | refine ⟨by decide, ?_⟩
          | refine ⟨subHi_le _ _ _, ?_⟩
          | refine ⟨_, rfl, ?_⟩
          | fail
        refine loop_I (C_ok W0) (fun (p : Nat × List Int) => p.2.length = 4 + p.1 ∧ p.1 ≤ 4 ∧ Lm p.2 ∧ nv p.2 = mag v % 18446744073709551616 + B 4 * (mag v / 18446744073709551616 % B p.1))
          (fun p => [(2, .pointer (some ⟨0, 0, none⟩)), (3, gsV 1 p.2), (4, .int .u64 (mag v / 18446744073709551616)), (6, .bool (decide (v / 18446744073709551616 < 0))), (8, .int .i64 p.1)])
          (fun p => [num0, gbV p.2]) (fun p => 4 - p.1) (0, x :: r) ⟨h4, Nat.zero_le 4, hl, by rw [hv]; simp [B_zero, Int.emod_one]⟩ ⟨_, rfl, RT.of_eq rfl rfl⟩ ?_
        rintro ⟨j, o⟩ ⟨ho, hj, hl, hv⟩
        dsimp only at ho hj hl hv ⊢
        have hhi : 0 ≤ mag v / 18446744073709551616 ∧ mag v / 18446744073709551616 < 18446744073709551616 := by
          have : mag v ≤ 170141183460469231731687303715884105728 := by unfold mag; split <;> omega
          omega
        cases o with
        | nil => simp at ho; omega
        | cons y t =>
          have hcl : (y :: t).length = t.length + 1 := rfl
          have hol : (u32s (y :: t)).length = t.length + 1 := by simp
          have ht : t.length + 1 = 4 + j := ho
          by_cases g : j < 4
          · have lm := limb_at (mag v / 18446744073709551616) hhi.1 hhi.2 j g
            have hpl := place_u j g
            have st := hi_step _ _ hhi.1 (y :: t) j _ ho hv rfl hl
            repeat' first
              | refine brP.tD (by omega) ?_
              | refine brP.fD (by omega) ?_
              | refine brP.tN (by omega) ?_
              | refine brP.fN (by omega) ?_
              | (apply Here.norm; (first | dsimp only [Env.putR, argEnv, pure1, newPtr, applyE, hset, List.length_cons, List.length_nil, List.length_append, List.set, List.cons_append, List.nil_append] | rfl); (first | dsimp only [Env.putR, argEnv, pure1, newPtr, applyE, hset, List.length_cons, List.length_nil, List.length_append, List.set, List.cons_append, List.nil_append] | rfl))
              | refine brP.t (by assumption) ?_
              | refine brP.f (by assumption) ?_
              | refine brP.tD (by assumption) ?_
              | refine brP.fD (by assumption) ?_
              | refine brP.tN (by assumption) ?_
              | refine brP.fN (by assumption) ?_
              | refine brP.introD (fun h => ?_) (fun h => ?_)
              | refine brP.introN (fun h => ?_) (fun h => ?_)
              | refine brP.intro (fun h => ?_) (fun h => ?_)
              | refine ⟨_, _, _, _, _, rfl, rfl, rfl, Fits.mk (by first | exact Nat.le_of_ble_eq_true rfl | (dsimp only; omega)), rfl, ?_⟩
              | refine ⟨_, _, _, _, _, rfl, _, rfl, ?_⟩
              | refine ⟨_, _, _, _, _, rfl, Fits.mk (by first | exact Nat.le_of_ble_eq_true rfl | (dsimp only; omega)), _, rfl, ?_⟩
              | refine ⟨Fits.mk (by first | exact Nat.le_of_ble_eq_true rfl | (dsimp only; omega)), _, rfl, ?_⟩
              | refine draw_go (C_ok W0) (by kernel_rfl) ?_
              | refine ⟨cpt_ok (by kernel_rfl), ?_⟩
              | refine ⟨InB.mk (by first | decide | omega) (by first | decide | omega), ?_⟩
              | refine ⟨SlB.mk (by first | omega | decide) (by first | omega | decide) (by first | omega | decide), ?_⟩
              | refine ⟨ShB.mk (by first | decide | omega), ?_⟩
              | refine ⟨NzB.mk (by first | decide | omega), ?_⟩
              | refine ⟨by decide, MkB.mk (by omega) (by omega) (by omega) (by omega), ?_⟩
              | refine ⟨trivial, ?_⟩
              | refine ⟨by decide, rfl, by decide, ?_⟩
              | refine .inr ⟨by decide, _, _, _, _, _, rfl, rfl, Fits.mk (by first | exact Nat.le_of_ble_eq_true rfl | omega), ?_⟩
              | refine .inr ⟨by decide, by decide, Room.mk (by decide) (by decide), ?_⟩
              | refine .inr ⟨by decide, _, _, _, _, _, rfl, rfl, Room.mk (by omega) (by omega), .inr (.inr ⟨(by omega), rfl, rfl, rfl, (by first | omega | (simp; done) | (simp; omega)), (by omega), rfl, ?_⟩)⟩
              | refine ⟨by decide, ?_⟩
              | refine ⟨subHi_le _ _ _, ?_⟩
              | refine ⟨_, rfl, ?_⟩
              | fail
            apply Again.mk (j + 1, y :: t ++ [mag v / 18446744073709551616 / B j % 65536])
            · exact ⟨by simp only [List.length_append, List.length_cons, List.length_nil]; omega, by dsimp only; omega, st.1, by simpa using st.2⟩
            · dsimp only; omega
            · refine ⟨_, rfl, ?_⟩
              dsimp only [List.map]
              rw [gsV_snoc, gbV_snoc]
              refine RT.ren [0, 3] rfl rfl ?_ ?_
              all_goals (repeat' first
                | exact trivial
                | exact LTo.nil
                | refine ⟨⟨_, rfl, ?_, (fun z => by cases z)⟩, ?_⟩
                | refine BTo.cells (fun z => z) ?_
                | refine BTo.cells (fun z => by cases z) ?_
                | exact VTo.ptr (by decide)
                | exact VTo.slice (by decide)
                | exact VTo.map (by decide)
                | exact VTo.emptyN _
                | refine LTo.cons ?_ ?_
                | refine VTo.int ?_
                | refine VTo.bool ?_
                | refine VTo.string ?_
                | refine VTo.agg ?_
                | refine VTo.tuple ?_
                | exact VTo.same _
                | (with_reducible rfl)
                | exact VTo.n rfl
                | exact LTo.n rfl
                | refine LTo.n ?_
                | refine VTo.n ?_
                )
              · exact u32s_snoc rfl lm
              · rw [wrap_in (by omega)]; omega
          · have hj4 : j = 4 := by omega
            subst hj4
            have mk := ref_make2 (W0 := W0) (decide (v / 18446744073709551616 < 0)) (y :: t) hl (by omega)
            have e1 : List.take ((t.length + 1) * 1) (List.drop 0 (u32s (y :: t))) = u32s (y :: t) := by rw [Nat.mul_one, List.drop_zero, List.take_of_length_le (by simp)]
            have e2 : nv (y :: t) = mag v := by rw [hv, B4]; omega
            have e3 : (if decide (v / 18446744073709551616 < 0) = true then -mag v else mag v) = v := by
              simp only [decide_eq_true_eq]
              unfold mag
              split <;> split <;> omega
            rw [e2, e3] at mk
            repeat' first
              | refine brP.tD (by omega) ?_
              | refine brP.fD (by omega) ?_
              | refine brP.tN (by omega) ?_
              | refine brP.fN (by omega) ?_
              | refine (mk.give1 1 (.cons (.same _) (.cons (VTo.fz' (by simp) e1) .nil)) _).call (by first | exact trivial | exact ⟨rfl, trivial⟩ | exact ⟨rfl, rfl, trivial⟩) ?_
              | refine .inr ⟨_, mk.give1 1 (.cons (.same _) (.cons (VTo.fz' (by simp) e1) .nil)) _, (by first | exact trivial | exact ⟨rfl, trivial⟩ | exact ⟨rfl, rfl, trivial⟩), ?_⟩
              | (apply Here.norm; (first | dsimp only [Env.putR, argEnv, pure1, newPtr, applyE, hset, List.length_cons, List.length_nil, List.length_append, List.set, List.cons_append, List.nil_append] | rfl); (first | dsimp only [Env.putR, argEnv, pure1, newPtr, applyE, hset, List.length_cons, List.length_nil, List.length_append, List.set, List.cons_append, List.nil_append] | rfl))
              | refine brP.t (by assumption) ?_
              | refine brP.f (by assumption) ?_
              | refine brP.tD (by assumption) ?_
              | refine brP.fD (by assumption) ?_
              | refine brP.tN (by assumption) ?_
              | refine brP.fN (by assumption) ?_
              | refine brP.introD (fun h => ?_) (fun h => ?_)
              | refine brP.introN (fun h => ?_) (fun h => ?_)
              | refine brP.intro (fun h => ?_) (fun h => ?_)
              | refine ⟨_, _, _, _, _, rfl, rfl, rfl, Fits.mk (by first | exact Nat.le_of_ble_eq_true rfl | (dsimp only; omega)), rfl, ?_⟩
              | refine ⟨_, _, _, _, _, rfl, _, rfl, ?_⟩
              | refine ⟨_, _, _, _, _, rfl, Fits.mk (by first | exact Nat.le_of_ble_eq_true rfl | (dsimp only; omega)), _, rfl, ?_⟩
              | refine ⟨Fits.mk (by first | exact Nat.le_of_ble_eq_true rfl | (dsimp only; omega)), _, rfl, ?_⟩
              | refine draw_go (C_ok W0) (by kernel_rfl) ?_
              | refine ⟨cpt_ok (by kernel_rfl), ?_⟩
              | refine ⟨InB.mk (by first | decide | omega) (by first | decide | omega), ?_⟩
              | refine ⟨SlB.mk (by first | omega | decide) (by first | omega | decide) (by first | omega | decide), ?_⟩
              | refine ⟨ShB.mk (by first | decide | omega), ?_⟩
              | refine ⟨NzB.mk (by first | decide | omega), ?_⟩
              | refine ⟨by decide, MkB.mk (by omega) (by omega) (by omega) (by omega), ?_⟩
              | refine ⟨trivial, ?_⟩
              | refine ⟨by decide, rfl, by decide, ?_⟩
              | refine .inr ⟨by decide, _, _, _, _, _, rfl, rfl, Fits.mk (by first | exact Nat.le_of_ble_eq_true rfl | omega), ?_⟩
              | refine .inr ⟨by decide, by decide, Room.mk (by decide) (by decide), ?_⟩
              | refine .inr ⟨by decide, _, _, _, _, _, rfl, rfl, Room.mk (by omega) (by omega), .inr (.inr ⟨(by omega), rfl, rfl, rfl, (by first | omega | (simp; done) | (simp; omega)), (by omega), rfl, ?_⟩)⟩
              | refine ⟨by decide, ?_⟩
              | refine ⟨subHi_le _ _ _, ?_⟩
              | refine ⟨_, rfl, ?_⟩
              | fail
            rfl
  · obtain ⟨x1, x2, x3⟩ := from_neg v hR ‹_›
    rw [x1, wr_u64] at h
    refine loop_I (C_ok W0) (fun (o : List Int) => o.length ≤ 4 ∧ Lm o ∧ nv o = mag v % 18446744073709551616 % B o.length)
      (fun o => [(2, .pointer (some ⟨0, 0, none⟩)), (3, gsV 1 o), (4, .int .u64 (mag v / 18446744073709551616)), (5, .int .u64 (mag v % 18446744073709551616)), (6, .bool (decide (v / 18446744073709551616 < 0))), (7, .int .i64 o.length)])
      (fun o => [num0, gbV o]) (fun o => 4 - o.length) [] ⟨by simp, Lm_nil, by simp [nv, B_zero, Int.emod_one]⟩ ⟨_, rfl, RT.trans (h1 := [num0]) ?_ .pad⟩ ?_
    · dsimp only [List.map]
      refine RT.ren [1] rfl rfl ?_ ?_
      all_goals (repeat' first
        | exact trivial
        | exact LTo.nil
        | refine ⟨⟨_, rfl, ?_, (fun z => by cases z)⟩, ?_⟩
        | refine BTo.cells (fun z => z) ?_
        | refine BTo.cells (fun z => by cases z) ?_
        | exact VTo.ptr (by decide)
        | exact VTo.slice (by decide)
        | exact VTo.map (by decide)
        | exact VTo.emptyN _
        | refine LTo.cons ?_ ?_
        | refine VTo.int ?_
        | refine VTo.bool ?_
        | refine VTo.string ?_
        | refine VTo.agg ?_
        | refine VTo.tuple ?_
        | exact VTo.same _
        | (with_reducible rfl)
        | exact VTo.n rfl
        | exact LTo.n rfl
        | refine LTo.n ?_
        | refine VTo.n ?_
        )
      · rw [x2, x3]; omega
      · rw [x1, wr_u64, x3]; omega
      · rfl
    intro o ⟨ho, hl, hv⟩
    have hm0 := mag_nonneg v
    have hlo : 0 ≤ mag v % 18446744073709551616 := by omega
    cases o with
    | nil =>
      have lm := limb_at (mag v % 18446744073709551616) hlo (by omega) 0 (by decide)
      have hpl := place_u 0 (by decide)
      have st := lo_step _ hlo [] 0 _ rfl hv rfl hl
      repeat' first
        | refine brP.tD (by omega) ?_
        | refine brP.fD (by omega) ?_
        | refine brP.tN (by omega) ?_
        | refine brP.fN (by omega) ?_
        | (apply Here.norm; (first | dsimp only [Env.putR, argEnv, pure1, newPtr, applyE, hset, List.length_cons, List.length_nil, List.length_append, List.set, List.cons_append, List.nil_append] | rfl); (first | dsimp only [Env.putR, argEnv, pure1, newPtr, applyE, hset, List.length_cons, List.length_nil, List.length_append, List.set, List.cons_append, List.nil_append] | rfl))
        | refine brP.t (by assumption) ?_
        | refine brP.f (by assumption) ?_
        | refine brP.tD (by assumption) ?_
        | refine brP.fD (by assumption) ?_
        | refine brP.tN (by assumption) ?_
        | refine brP.fN (by assumption) ?_
        | refine brP.introD (fun h => ?_) (fun h => ?_)
        | refine brP.introN (fun h => ?_) (fun h => ?_)
        | refine brP.intro (fun h => ?_) (fun h => ?_)
        | refine ⟨_, _, _, _, _, rfl, rfl, rfl, Fits.mk (by first | exact Nat.le_of_ble_eq_true rfl | (dsimp only; omega)), rfl, ?_⟩
        | refine ⟨_, _, _, _, _, rfl, _, rfl, ?_⟩
        | refine ⟨_, _, _, _, _, rfl, Fits.mk (by first | exact Nat.le_of_ble_eq_true rfl | (dsimp only; omega)), _, rfl, ?_⟩
        | refine ⟨Fits.mk (by first | exact Nat.le_of_ble_eq_true rfl | (dsimp only; omega)), _, rfl, ?_⟩
        | refine draw_go (C_ok W0) (by kernel_rfl) ?_
        | refine ⟨cpt_ok (by kernel_rfl), ?_⟩
        | refine ⟨InB.mk (by first | decide | omega) (by first | decide | omega), ?_⟩
        | refine ⟨SlB.mk (by first | omega | decide) (by first | omega | decide) (by first | omega | decide), ?_⟩
        | refine ⟨ShB.mk (by first | decide | omega), ?_⟩
        | refine ⟨NzB.mk (by first | decide | omega), ?_⟩
        | refine ⟨by decide, MkB.mk (by omega) (by omega) (by omega) (by omega), ?_⟩
        | refine ⟨trivial, ?_⟩
        | refine ⟨by decide, rfl, by decide, ?_⟩
        | refine .inr ⟨by decide, _, _, _, _, _, rfl, rfl, Fits.mk (by first | exact Nat.le_of_ble_eq_true rfl | omega), ?_⟩
        | refine .inr ⟨by decide, by decide, Room.mk (by decide) (by decide), ?_⟩
        | refine .inr ⟨by decide, _, _, _, _, _, rfl, rfl, Room.mk (by omega) (by omega), .inr (.inr ⟨(by omega), rfl, rfl, rfl, (by first | omega | (simp; done) | (simp; omega)), (by omega), rfl, ?_⟩)⟩
        | refine ⟨by decide, ?_⟩
        | refine ⟨subHi_le _ _ _, ?_⟩
        | refine ⟨_, rfl, ?_⟩
        | fail
      apply Again.mk ([] ++ [mag v % 18446744073709551616 / B 0 % 65536])
      · exact ⟨by simp, st.1, st.2⟩
      · simp
      · refine ⟨_, rfl, ?_⟩
        dsimp only [List.map]
        rw [gsV_snoc, gbV_snoc]
        refine RT.ren [0, 3] rfl rfl ?_ ?_
        all_goals (repeat' first
          | exact trivial
          | exact LTo.nil
          | refine ⟨⟨_, rfl, ?_, (fun z => by cases z)⟩, ?_⟩
          | refine BTo.cells (fun z => z) ?_
          | refine BTo.cells (fun z => by cases z) ?_
          | exact VTo.ptr (by decide)
          | exact VTo.slice (by decide)
          | exact VTo.map (by decide)
          | exact VTo.emptyN _
          | refine LTo.cons ?_ ?_
          | refine VTo.int ?_
          | refine VTo.bool ?_
          | refine VTo.string ?_
          | refine VTo.agg ?_
          | refine VTo.tuple ?_
          | exact VTo.same _
          | (with_reducible rfl)
          | exact VTo.n rfl
          | exact LTo.n rfl
          | refine LTo.n ?_
          | refine VTo.n ?_
          )
        · exact lm
        · exact len_snoc rfl (by decide)
    | cons x r =>
      have hcl : (x :: r).length = r.length + 1 := rfl
      have hol : (u32s (x :: r)).length = r.length + 1 := by simp
      by_cases g : (x :: r).length < 4
      · have lm := limb_at (mag v % 18446744073709551616) hlo (by omega) (x :: r).length g
        have hpl := place_u (x :: r).length g
        have st := lo_step _ hlo (x :: r) (x :: r).length _ rfl hv rfl hl
        rw [hcl] at hpl
        repeat' first
          | refine brP.tD (by omega) ?_
          | refine brP.fD (by omega) ?_
          | refine brP.tN (by omega) ?_
          | refine brP.fN (by omega) ?_
          | (apply Here.norm; (first | dsimp only [Env.putR, argEnv, pure1, newPtr, applyE, hset, List.length_cons, List.length_nil, List.length_append, List.set, List.cons_append, List.nil_append] | rfl); (first | dsimp only [Env.putR, argEnv, pure1, newPtr, applyE, hset, List.length_cons, List.length_nil, List.length_append, List.set, List.cons_append, List.nil_append] | rfl))
          | refine brP.t (by assumption) ?_
          | refine brP.f (by assumption) ?_
          | refine brP.tD (by assumption) ?_
          | refine brP.fD (by assumption) ?_
          | refine brP.tN (by assumption) ?_
          | refine brP.fN (by assumption) ?_
          | refine brP.introD (fun h => ?_) (fun h => ?_)
          | refine brP.introN (fun h => ?_) (fun h => ?_)
          | refine brP.intro (fun h => ?_) (fun h => ?_)
          | refine ⟨_, _, _, _, _, rfl, rfl, rfl, Fits.mk (by first | exact Nat.le_of_ble_eq_true rfl | (dsimp only; omega)), rfl, ?_⟩
          | refine ⟨_, _, _, _, _, rfl, _, rfl, ?_⟩
          | refine ⟨_, _, _, _, _, rfl, Fits.mk (by first | exact Nat.le_of_ble_eq_true rfl | (dsimp only; omega)), _, rfl, ?_⟩
          | refine ⟨Fits.mk (by first | exact Nat.le_of_ble_eq_true rfl | (dsimp only; omega)), _, rfl, ?_⟩
          | refine draw_go (C_ok W0) (by kernel_rfl) ?_
          | refine ⟨cpt_ok (by kernel_rfl), ?_⟩
          | refine ⟨InB.mk (by first | decide | omega) (by first | decide | omega), ?_⟩
          | refine ⟨SlB.mk (by first | omega | decide) (by first | omega | decide) (by first | omega | decide), ?_⟩
          | refine ⟨ShB.mk (by first | decide | omega), ?_⟩
          | refine ⟨NzB.mk (by first | decide | omega), ?_⟩
          | refine ⟨by decide, MkB.mk (by omega) (by omega) (by omega) (by omega), ?_⟩
          | refine ⟨trivial, ?_⟩
          | refine ⟨by decide, rfl, by decide, ?_⟩
          | refine .inr ⟨by decide, _, _, _, _, _, rfl, rfl, Fits.mk (by first | exact Nat.le_of_ble_eq_true rfl | omega), ?_⟩
          | refine .inr ⟨by decide, by decide, Room.mk (by decide) (by decide), ?_⟩
          | refine .inr ⟨by decide, _, _, _, _, _, rfl, rfl, Room.mk (by omega) (by omega), .inr (.inr ⟨(by omega), rfl, rfl, rfl, (by first | omega | (simp; done) | (simp; omega)), (by omega), rfl, ?_⟩)⟩
          | refine ⟨by decide, ?_⟩
          | refine ⟨subHi_le _ _ _, ?_⟩
          | refine ⟨_, rfl, ?_⟩
          | fail
        apply Again.mk (x :: r ++ [mag v % 18446744073709551616 / B (x :: r).length % 65536])
        · exact ⟨by simp only [List.length_append, List.length_cons, List.length_nil]; omega, st.1, by simpa using st.2⟩
        · simp only [List.length_append, List.length_cons, List.length_nil]; omega
        · refine ⟨_, rfl, ?_⟩
          dsimp only [List.map]
          rw [gsV_snoc, gbV_snoc]
          refine RT.ren [0, 3] rfl rfl ?_ ?_
          all_goals (repeat' first
            | exact trivial
            | exact LTo.nil
            | refine ⟨⟨_, rfl, ?_, (fun z => by cases z)⟩, ?_⟩
            | refine BTo.cells (fun z => z) ?_
            | refine BTo.cells (fun z => by cases z) ?_
            | exact VTo.ptr (by decide)
            | exact VTo.slice (by decide)
            | exact VTo.map (by decide)
            | exact VTo.emptyN _
            | refine LTo.cons ?_ ?_
            | refine VTo.int ?_
            | refine VTo.bool ?_
            | refine VTo.string ?_
            | refine VTo.agg ?_
            | refine VTo.tuple ?_
            | exact VTo.same _
            | (with_reducible rfl)
            | exact VTo.n rfl
            | exact LTo.n rfl
            | refine LTo.n ?_
            | refine VTo.n ?_
            )
          · exact u32s_snoc rfl lm
          · exact len_snoc rfl (by omega)
      · have h4 : (x :: r).length = 4 := by omega
        rw [h4, show mag v % 18446744073709551616 % B 4 = mag v % 18446744073709551616 by rw [B4]; omega] at hv
        repeat' first
          | refine brP.tD (by omega) ?_
          | refine brP.fD (by omega) ?_
          | refine brP.tN (by omega) ?_
          | refine brP.fN (by omega) ?_
          | (apply Here.norm; (first | dsimp only [Env.putR, argEnv, pure1, newPtr, applyE, hset, List.length_cons, List.length_nil, List.length_append, List.set, List.cons_append, List.nil_append] | rfl); (first | dsimp only [Env.putR, argEnv, pure1, newPtr, applyE, hset, List.length_cons, List.length_nil, List.length_append, List.set, List.cons_append, List.nil_append] | rfl))
          | refine brP.t (by assumption) ?_
          | refine brP.f (by assumption) ?_
          | refine brP.tD (by assumption) ?_
          | refine brP.fD (by assumption) ?_
          | refine brP.tN (by assumption) ?_
          | refine brP.fN (by assumption) ?_
          | refine brP.introD (fun h => ?_) (fun h => ?_)
          | refine brP.introN (fun h => ?_) (fun h => ?_)
          | refine brP.intro (fun h => ?_) (fun h => ?_)
          | refine ⟨_, _, _, _, _, rfl, rfl, rfl, Fits.mk (by first | exact Nat.le_of_ble_eq_true rfl | (dsimp only; omega)), rfl, ?_⟩
          | refine ⟨_, _, _, _, _, rfl, _, rfl, ?_⟩
          | refine ⟨_, _, _, _, _, rfl, Fits.mk (by first | exact Nat.le_of_ble_eq_true rfl | (dsimp only; omega)), _, rfl, ?_⟩
          | refine ⟨Fits.mk (by first | exact Nat.le_of_ble_eq_true rfl | (dsimp only; omega)), _, rfl, ?_⟩
          | refine draw_go (C_ok W0) (by kernel_rfl) ?_
          | refine ⟨cpt_ok (by kernel_rfl), ?_⟩
          | refine ⟨InB.mk (by first | decide | omega) (by first | decide | omega), ?_⟩
          | refine ⟨SlB.mk (by first | omega | decide) (by first | omega | decide) (by first | omega | decide), ?_⟩
          | refine ⟨ShB.mk (by first | decide | omega), ?_⟩
          | refine ⟨NzB.mk (by first | decide | omega), ?_⟩
          | refine ⟨by decide, MkB.mk (by omega) (by omega) (by omega) (by omega), ?_⟩
          | refine ⟨trivial, ?_⟩
          | refine ⟨by decide, rfl, by decide, ?_⟩
          | refine .inr ⟨by decide, _, _, _, _, _, rfl, rfl, Fits.mk (by first | exact Nat.le_of_ble_eq_true rfl | omega), ?_⟩
          | refine .inr ⟨by decide, by decide, Room.mk (by decide) (by decide), ?_⟩
          | refine .inr ⟨by decide, _, _, _, _, _, rfl, rfl, Room.mk (by omega) (by omega), .inr (.inr ⟨(by omega), rfl, rfl, rfl, (by first | omega | (simp; done) | (simp; omega)), (by omega), rfl, ?_⟩)⟩
          | refine ⟨by decide, ?_⟩
          | refine ⟨subHi_le _ _ _, ?_⟩
          | refine ⟨_, rfl, ?_⟩
          | fail
        refine loop_I (C_ok W0) (fun (p : Nat × List Int) => p.2.length = 4 + p.1 ∧ p.1 ≤ 4 ∧ Lm p.2 ∧ nv p.2 = mag v % 18446744073709551616 + B 4 * (mag v / 18446744073709551616 % B p.1))
          (fun p => [(2, .pointer (some ⟨0, 0, none⟩)), (3, gsV 1 p.2), (4, .int .u64 (mag v / 18446744073709551616)), (6, .bool (decide (v / 18446744073709551616 < 0))), (8, .int .i64 p.1)])
          (fun p => [num0, gbV p.2]) (fun p => 4 - p.1) (0, x :: r) ⟨h4, Nat.zero_le 4, hl, by rw [hv]; simp [B_zero, Int.emod_one]⟩ ⟨_, rfl, RT.of_eq rfl rfl⟩ ?_
        rintro ⟨j, o⟩ ⟨ho, hj, hl, hv⟩
        dsimp only at ho hj hl hv ⊢
        have hhi : 0 ≤ mag v / 18446744073709551616 ∧ mag v / 18446744073709551616 < 18446744073709551616 := by
          have : mag v ≤ 170141183460469231731687303715884105728 := by unfold mag; split <;> omega
          omega
        cases o with
        | nil => simp at ho; omega
        | cons y t =>
          have hcl : (y :: t).length = t.length + 1 := rfl
          have hol : (u32s (y :: t)).length = t.length + 1 := by simp
          have ht : t.length + 1 = 4 + j := ho
          by_cases g : j < 4
          · have lm := limb_at (mag v / 18446744073709551616) hhi.1 hhi.2 j g
            have hpl := place_u j g
            have st := hi_step _ _ hhi.1 (y :: t) j _ ho hv rfl hl
            repeat' first
              | refine brP.tD (by omega) ?_
              | refine brP.fD (by omega) ?_
              | refine brP.tN (by omega) ?_
              | refine brP.fN (by omega) ?_
              | (apply Here.norm; (first | dsimp only [Env.putR, argEnv, pure1, newPtr, applyE, hset, List.length_cons, List.length_nil, List.length_append, List.set, List.cons_append, List.nil_append] | rfl); (first | dsimp only [Env.putR, argEnv, pure1, newPtr, applyE, hset, List.length_cons, List.length_nil, List.length_append, List.set, List.cons_append, List.nil_append] | rfl))
              | refine brP.t (by assumption) ?_
              | refine brP.f (by assumption) ?_
              | refine brP.tD (by assumption) ?_
              | refine brP.fD (by assumption) ?_
              | refine brP.tN (by assumption) ?_
              | refine brP.fN (by assumption) ?_
              | refine brP.introD (fun h => ?_) (fun h => ?_)
              | refine brP.introN (fun h => ?_) (fun h => ?_)
              | refine brP.intro (fun h => ?_) (fun h => ?_)
              | refine ⟨_, _, _, _, _, rfl, rfl, rfl, Fits.mk (by first | exact Nat.le_of_ble_eq_true rfl | (dsimp only; omega)), rfl, ?_⟩
              | refine ⟨_, _, _, _, _, rfl, _, rfl, ?_⟩
              | refine ⟨_, _, _, _, _, rfl, Fits.mk (by first | exact Nat.le_of_ble_eq_true rfl | (dsimp only; omega)), _, rfl, ?_⟩
              | refine ⟨Fits.mk (by first | exact Nat.le_of_ble_eq_true rfl | (dsimp only; omega)), _, rfl, ?_⟩
              | refine draw_go (C_ok W0) (by kernel_rfl) ?_
              | refine ⟨cpt_ok (by kernel_rfl), ?_⟩
              | refine ⟨InB.mk (by first | decide | omega) (by first | decide | omega), ?_⟩
              | refine ⟨SlB.mk (by first | omega | decide) (by first | omega | decide) (by first | omega | decide), ?_⟩
              | refine ⟨ShB.mk (by first | decide | omega), ?_⟩
              | refine ⟨NzB.mk (by first | decide | omega), ?_⟩
              | refine ⟨by decide, MkB.mk (by omega) (by omega) (by omega) (by omega), ?_⟩
              | refine ⟨trivial, ?_⟩
              | refine ⟨by decide, rfl, by decide, ?_⟩
              | refine .inr ⟨by decide, _, _, _, _, _, rfl, rfl, Fits.mk (by first | exact Nat.le_of_ble_eq_true rfl | omega), ?_⟩
              | refine .inr ⟨by decide, by decide, Room.mk (by decide) (by decide), ?_⟩
              | refine .inr ⟨by decide, _, _, _, _, _, rfl, rfl, Room.mk (by omega) (by omega), .inr (.inr ⟨(by omega), rfl, rfl, rfl, (by first | omega | (simp; done) | (simp; omega)), (by omega), rfl, ?_⟩)⟩
              | refine ⟨by decide, ?_⟩
              | refine ⟨subHi_le _ _ _, ?_⟩
              | refine ⟨_, rfl, ?_⟩
              | fail
            apply Again.mk (j + 1, y :: t ++ [mag v / 18446744073709551616 / B j % 65536])
            · exact ⟨by simp only [List.length_append, List.length_cons, List.length_nil]; omega, by dsimp only; omega, st.1, by simpa using st.2⟩
            · dsimp only; omega
            · refine ⟨_, rfl, ?_⟩
              dsimp only [List.map]
              rw [gsV_snoc, gbV_snoc]
              refine RT.ren [0, 3] rfl rfl ?_ ?_
              all_goals (repeat' first
                | exact trivial
                | exact LTo.nil
                | refine ⟨⟨_, rfl, ?_, (fun z => by cases z)⟩, ?_⟩
                | refine BTo.cells (fun z => z) ?_
                | refine BTo.cells (fun z => by cases z) ?_
                | exact VTo.ptr (by decide)
                | exact VTo.slice (by decide)
                | exact VTo.map (by decide)
                | exact VTo.emptyN _
                | refine LTo.cons ?_ ?_
                | refine VTo.int ?_
                | refine VTo.bool ?_
                | refine VTo.string ?_
                | refine VTo.agg ?_
                | refine VTo.tuple ?_
                | exact VTo.same _
                | (with_reducible rfl)
                | exact VTo.n rfl
                | exact LTo.n rfl
                | refine LTo.n ?_
                | refine VTo.n ?_
                )
              · exact u32s_snoc rfl lm
              · rw [wrap_in (by omega)]; omega
          · have hj4 : j = 4 := by omega
            subst hj4
            have mk := ref_make2 (W0 := W0) (decide (v / 18446744073709551616 < 0)) (y :: t) hl (by omega)
            have e1 : List.take ((t.length + 1) * 1) (List.drop 0 (u32s (y :: t))) = u32s (y :: t) := by rw [Nat.mul_one, List.drop_zero, List.take_of_length_le (by simp)]
            have e2 : nv (y :: t) = mag v := by rw [hv, B4]; omega
            have e3 : (if decide (v / 18446744073709551616 < 0) = true then -mag v else mag v) = v := by
              simp only [decide_eq_true_eq]
              unfold mag
              split <;> split <;> omega
            rw [e2, e3] at mk
            repeat' first
              | refine brP.tD (by omega) ?_
              | refine brP.fD (by omega) ?_
              | refine brP.tN (by omega) ?_
              | refine brP.fN (by omega) ?_
              | refine (mk.give1 1 (.cons (.same _) (.cons (VTo.fz' (by simp) e1) .nil)) _).call (by first | exact trivial | exact ⟨rfl, trivial⟩ | exact ⟨rfl, rfl, trivial⟩) ?_
              | refine .inr ⟨_, mk.give1 1 (.cons (.same _) (.cons (VTo.fz' (by simp) e1) .nil)) _, (by first | exact trivial | exact ⟨rfl, trivial⟩ | exact ⟨rfl, rfl, trivial⟩), ?_⟩
              | (apply Here.norm; (first | dsimp only [Env.putR, argEnv, pure1, newPtr, applyE, hset, List.length_cons, List.length_nil, List.length_append, List.set, List.cons_append, List.nil_append] | rfl); (first | dsimp only [Env.putR, argEnv, pure1, newPtr, applyE, hset, List.length_cons, List.length_nil, List.length_append, List.set, List.cons_append, List.nil_append] | rfl))
              | refine brP.t (by assumption) ?_
              | refine brP.f (by assumption) ?_
              | refine brP.tD (by assumption) ?_
              | refine brP.fD (by assumption) ?_
              | refine brP.tN (by assumption) ?_
              | refine brP.fN (by assumption) ?_
              | refine brP.introD (fun h => ?_) (fun h => ?_)
              | refine brP.introN (fun h => ?_) (fun h => ?_)
              | refine brP.intro (fun h => ?_) (fun h => ?_)
              | refine ⟨_, _, _, _, _, rfl, rfl, rfl, Fits.mk (by first | exact Nat.le_of_ble_eq_true rfl | (dsimp only; omega)), rfl, ?_⟩
              | refine ⟨_, _, _, _, _, rfl, _, rfl, ?_⟩
              | refine ⟨_, _, _, _, _, rfl, Fits.mk (by first | exact Nat.le_of_ble_eq_true rfl | (dsimp only; omega)), _, rfl, ?_⟩
              | refine ⟨Fits.mk (by first | exact Nat.le_of_ble_eq_true rfl | (dsimp only; omega)), _, rfl, ?_⟩
              | refine draw_go (C_ok W0) (by kernel_rfl) ?_
              | refine ⟨cpt_ok (by kernel_rfl), ?_⟩
              | refine ⟨InB.mk (by first | decide | omega) (by first | decide | omega), ?_⟩
              | refine ⟨SlB.mk (by first | omega | decide) (by first | omega | decide) (by first | omega | decide), ?_⟩
              | refine ⟨ShB.mk (by first | decide | omega), ?_⟩
              | refine ⟨NzB.mk (by first | decide | omega), ?_⟩
              | refine ⟨by decide, MkB.mk (by omega) (by omega) (by omega) (by omega), ?_⟩
              | refine ⟨trivial, ?_⟩
              | refine ⟨by decide, rfl, by decide, ?_⟩
              | refine .inr ⟨by decide, _, _, _, _, _, rfl, rfl, Fits.mk (by first | exact Nat.le_of_ble_eq_true rfl | omega), ?_⟩
              | refine .inr ⟨by decide, by decide, Room.mk (by decide) (by decide), ?_⟩
              | refine .inr ⟨by decide, _, _, _, _, _, rfl, rfl, Room.mk (by omega) (by omega), .inr (.inr ⟨(by omega), rfl, rfl, rfl, (by first | omega | (simp; done) | (simp; omega)), (by omega), rfl, ?_⟩)⟩
              | refine ⟨by decide, ?_⟩
              | refine ⟨subHi_le _ _ _, ?_⟩
              | refine ⟨_, rfl, ?_⟩
              | fail
            rfl
  · have x3 : mag v = v := mag_pos (by omega)
    refine loop_I (C_ok W0) (fun (o : List Int) => o.length ≤ 4 ∧ Lm o ∧ nv o = mag v % 18446744073709551616 % B o.length)
      (fun o => [(2, .pointer (some ⟨0, 0, none⟩)), (3, gsV 1 o), (4, .int .u64 (mag v / 18446744073709551616)), (5, .int .u64 (mag v % 18446744073709551616)), (6, .bool (decide (v / 18446744073709551616 < 0))), (7, .int .i64 o.length)])
      (fun o => [num0, gbV o]) (fun o => 4 - o.length) [] ⟨by simp, Lm_nil, by simp [nv, B_zero, Int.emod_one]⟩ ⟨_, rfl, RT.trans (h1 := [num0]) ?_ .pad⟩ ?_
    · dsimp only [List.map]
      refine RT.ren [1] rfl rfl ?_ ?_
      all_goals (repeat' first
        | exact trivial
        | exact LTo.nil
        | refine ⟨⟨_, rfl, ?_, (fun z => by cases z)⟩, ?_⟩
        | refine BTo.cells (fun z => z) ?_
        | refine BTo.cells (fun z => by cases z) ?_
        | exact VTo.ptr (by decide)
        | exact VTo.slice (by decide)
        | exact VTo.map (by decide)
        | exact VTo.emptyN _
        | refine LTo.cons ?_ ?_
        | refine VTo.int ?_
        | refine VTo.bool ?_
        | refine VTo.string ?_
        | refine VTo.agg ?_
        | refine VTo.tuple ?_
        | exact VTo.same _
        | (with_reducible rfl)
        | exact VTo.n rfl
        | exact LTo.n rfl
        | refine LTo.n ?_
        | refine VTo.n ?_
        )
      · rw [wr_u64, x3]; omega
      · rw [x3]
      · rfl
    intro o ⟨ho, hl, hv⟩
    have hm0 := mag_nonneg v
    have hlo : 0 ≤ mag v % 18446744073709551616 := by omega
    cases o with
    | nil =>
      have lm := limb_at (mag v % 18446744073709551616) hlo (by omega) 0 (by decide)
      have hpl := place_u 0 (by decide)
      have st := lo_step _ hlo [] 0 _ rfl hv rfl hl
      repeat' first
        | refine brP.tD (by omega) ?_
        | refine brP.fD (by omega) ?_
        | refine brP.tN (by omega) ?_
        | refine brP.fN (by omega) ?_
        | (apply Here.norm; (first | dsimp only [Env.putR, argEnv, pure1, newPtr, applyE, hset, List.length_cons, List.length_nil, List.length_append, List.set, List.cons_append, List.nil_append] | rfl); (first | dsimp only [Env.putR, argEnv, pure1, newPtr, applyE, hset, List.length_cons, List.length_nil, List.length_append, List.set, List.cons_append, List.nil_append] | rfl))
        | refine brP.t (by assumption) ?_
        | refine brP.f (by assumption) ?_
        | refine brP.tD (by assumption) ?_
        | refine brP.fD (by assumption) ?_
        | refine brP.tN (by assumption) ?_
        | refine brP.fN (by assumption) ?_
        | refine brP.introD (fun h => ?_) (fun h => ?_)
        | refine brP.introN (fun h => ?_) (fun h => ?_)
        | refine brP.intro (fun h => ?_) (fun h => ?_)
        | refine ⟨_, _, _, _, _, rfl, rfl, rfl, Fits.mk (by first | exact Nat.le_of_ble_eq_true rfl | (dsimp only; omega)), rfl, ?_⟩
        | refine ⟨_, _, _, _, _, rfl, _, rfl, ?_⟩
        | refine ⟨_, _, _, _, _, rfl, Fits.mk (by first | exact Nat.le_of_ble_eq_true rfl | (dsimp only; omega)), _, rfl, ?_⟩
        | refine ⟨Fits.mk (by first | exact Nat.le_of_ble_eq_true rfl | (dsimp only; omega)), _, rfl, ?_⟩
        | refine draw_go (C_ok W0) (by kernel_rfl) ?_
        | refine ⟨cpt_ok (by kernel_rfl), ?_⟩
        | refine ⟨InB.mk (by first | decide | omega) (by first | decide | omega), ?_⟩
        | refine ⟨SlB.mk (by first | omega | decide) (by first | omega | decide) (by first | omega | decide), ?_⟩
        | refine ⟨ShB.mk (by first | decide | omega), ?_⟩
        | refine ⟨NzB.mk (by first | decide | omega), ?_⟩
        | refine ⟨by decide, MkB.mk (by omega) (by omega) (by omega) (by omega), ?_⟩
        | refine ⟨trivial, ?_⟩
        | refine ⟨by decide, rfl, by decide, ?_⟩
        | refine .inr ⟨by decide, _, _, _, _, _, rfl, rfl, Fits.mk (by first | exact Nat.le_of_ble_eq_true rfl | omega), ?_⟩
        | refine .inr ⟨by decide, by decide, Room.mk (by decide) (by decide), ?_⟩
        | refine .inr ⟨by decide, _, _, _, _, _, rfl, rfl, Room.mk (by omega) (by omega), .inr (.inr ⟨(by omega), rfl, rfl, rfl, (by first | omega | (simp; done) | (simp; omega)), (by omega), rfl, ?_⟩)⟩
        | refine ⟨by decide, ?_⟩
        | refine ⟨subHi_le _ _ _, ?_⟩
        | refine ⟨_, rfl, ?_⟩
        | fail
      apply Again.mk ([] ++ [mag v % 18446744073709551616 / B 0 % 65536])
      · exact ⟨by simp, st.1, st.2⟩
      · simp
      · refine ⟨_, rfl, ?_⟩
        dsimp only [List.map]
        rw [gsV_snoc, gbV_snoc]
        refine RT.ren [0, 3] rfl rfl ?_ ?_
        all_goals (repeat' first
          | exact trivial
          | exact LTo.nil
          | refine ⟨⟨_, rfl, ?_, (fun z => by cases z)⟩, ?_⟩
          | refine BTo.cells (fun z => z) ?_
          | refine BTo.cells (fun z => by cases z) ?_
          | exact VTo.ptr (by decide)
          | exact VTo.slice (by decide)
          | exact VTo.map (by decide)
          | exact VTo.emptyN _
          | refine LTo.cons ?_ ?_
          | refine VTo.int ?_
          | refine VTo.bool ?_
          | refine VTo.string ?_
          | refine VTo.agg ?_
          | refine VTo.tuple ?_
          | exact VTo.same _
          | (with_reducible rfl)
          | exact VTo.n rfl
          | exact LTo.n rfl
          | refine LTo.n ?_
          | refine VTo.n ?_
          )
        · exact lm
        · exact len_snoc rfl (by decide)
    | cons x r =>
      have hcl : (x :: r).length = r.length + 1 := rfl
      have hol : (u32s (x :: r)).length = r.length + 1 := by simp
      by_cases g : (x :: r).length < 4
      · have lm := limb_at (mag v % 18446744073709551616) hlo (by omega) (x :: r).length g
        have hpl := place_u (x :: r).length g
        have st := lo_step _ hlo (x :: r) (x :: r).length _ rfl hv rfl hl
        rw [hcl] at hpl
        repeat' first
          | refine brP.tD (by omega) ?_
          | refine brP.fD (by omega) ?_
          | refine brP.tN (by omega) ?_
          | refine brP.fN (by omega) ?_
          | (apply Here.norm; (first | dsimp only [Env.putR, argEnv, pure1, newPtr, applyE, hset, List.length_cons, List.length_nil, List.length_append, List.set, List.cons_append, List.nil_append] | rfl); (first | dsimp only [Env.putR, argEnv, pure1, newPtr, applyE, hset, List.length_cons, List.length_nil, List.length_append, List.set, List.cons_append, List.nil_append] | rfl))
          | refine brP.t (by assumption) ?_
          | refine brP.f (by assumption) ?_
          | refine brP.tD (by assumption) ?_
          | refine brP.fD (by assumption) ?_
          | refine brP.tN (by assumption) ?_
          | refine brP.fN (by assumption) ?_
          | refine brP.introD (fun h => ?_) (fun h => ?_)
          | refine brP.introN (fun h => ?_) (fun h => ?_)
          | refine brP.intro (fun h => ?_) (fun h => ?_)
          | refine ⟨_, _, _, _, _, rfl, rfl, rfl, Fits.mk (by first | exact Nat.le_of_ble_eq_true rfl | (dsimp only; omega)), rfl, ?_⟩
          | refine ⟨_, _, _, _, _, rfl, _, rfl, ?_⟩
          | refine ⟨_, _, _, _, _, rfl, Fits.mk (by first | exact Nat.le_of_ble_eq_true rfl | (dsimp only; omega)), _, rfl, ?_⟩
          | refine ⟨Fits.mk (by first | exact Nat.le_of_ble_eq_true rfl | (dsimp only; omega)), _, rfl, ?_⟩
          | refine draw_go (C_ok W0) (by kernel_rfl) ?_
          | refine ⟨cpt_ok (by kernel_rfl), ?_⟩
          | refine ⟨InB.mk (by first | decide | omega) (by first | decide | omega), ?_⟩
          | refine ⟨SlB.mk (by first | omega | decide) (by first | omega | decide) (by first | omega | decide), ?_⟩
          | refine ⟨ShB.mk (by first | decide | omega), ?_⟩
          | refine ⟨NzB.mk (by first | decide | omega), ?_⟩
          | refine ⟨by decide, MkB.mk (by omega) (by omega) (by omega) (by omega), ?_⟩
          | refine ⟨trivial, ?_⟩
          | refine ⟨by decide, rfl, by decide, ?_⟩
          | refine .inr ⟨by decide, _, _, _, _, _, rfl, rfl, Fits.mk (by first | exact Nat.le_of_ble_eq_true rfl | omega), ?_⟩
          | refine .inr ⟨by decide, by decide, Room.mk (by decide) (by decide), ?_⟩
          | refine .inr ⟨by decide, _, _, _, _, _, rfl, rfl, Room.mk (by omega) (by omega), .inr (.inr ⟨(by omega), rfl, rfl, rfl, (by first | omega | (simp; done) | (simp; omega)), (by omega), rfl, ?_⟩)⟩
          | refine ⟨by decide, ?_⟩
          | refine ⟨subHi_le _ _ _, ?_⟩
          | refine ⟨_, rfl, ?_⟩
          | fail
        apply Again.mk (x :: r ++ [mag v % 18446744073709551616 / B (x :: r).length % 65536])
        · exact ⟨by simp only [List.length_append, List.length_cons, List.length_nil]; omega, st.1, by simpa using st.2⟩
        · simp only [List.length_append, List.length_cons, List.length_nil]; omega
        · refine ⟨_, rfl, ?_⟩
          dsimp only [List.map]
          rw [gsV_snoc, gbV_snoc]
          refine RT.ren [0, 3] rfl rfl ?_ ?_
          all_goals (repeat' first
            | exact trivial
            | exact LTo.nil
            | refine ⟨⟨_, rfl, ?_, (fun z => by cases z)⟩, ?_⟩
            | refine BTo.cells (fun z => z) ?_
            | refine BTo.cells (fun z => by cases z) ?_
            | exact VTo.ptr (by decide)
            | exact VTo.slice (by decide)
            | exact VTo.map (by decide)
            | exact VTo.emptyN _
            | refine LTo.cons ?_ ?_
            | refine VTo.int ?_
            | refine VTo.bool ?_
            | refine VTo.string ?_
            | refine VTo.agg ?_
            | refine VTo.tuple ?_
            | exact VTo.same _
            | (with_reducible rfl)
            | exact VTo.n rfl
            | exact LTo.n rfl
            | refine LTo.n ?_
            | refine VTo.n ?_
            )
          · exact u32s_snoc rfl lm
          · exact len_snoc rfl (by omega)
      · have h4 : (x :: r).length = 4 := by omega
        rw [h4, show mag v % 18446744073709551616 % B 4 = mag v % 18446744073709551616 by rw [B4]; omega] at hv
        repeat' first
          | refine brP.tD (by omega) ?_
          | refine brP.fD (by omega) ?_
          | refine brP.tN (by omega) ?_
          | refine brP.fN (by omega) ?_
          | (apply Here.norm; (first | dsimp only [Env.putR, argEnv, pure1, newPtr, applyE, hset, List.length_cons, List.length_nil, List.length_append, List.set, List.cons_append, List.nil_append] | rfl); (first | dsimp only [Env.putR, argEnv, pure1, newPtr, applyE, hset, List.length_cons, List.length_nil, List.length_append, List.set, List.cons_append, List.nil_append] | rfl))
          | refine brP.t (by assumption) ?_
          | refine brP.f (by assumption) ?_
          | refine brP.tD (by assumption) ?_
          | refine brP.fD (by assumption) ?_
          | refine brP.tN (by assumption) ?_
          | refine brP.fN (by assumption) ?_
          | refine brP.introD (fun h => ?_) (fun h => ?_)
          | refine brP.introN (fun h => ?_) (fun h => ?_)
          | refine brP.intro (fun h => ?_) (fun h => ?_)
          | refine ⟨_, _, _, _, _, rfl, rfl, rfl, Fits.mk (by first | exact Nat.le_of_ble_eq_true rfl | (dsimp only; omega)), rfl, ?_⟩
          | refine ⟨_, _, _, _, _, rfl, _, rfl, ?_⟩
          | refine ⟨_, _, _, _, _, rfl, Fits.mk (by first | exact Nat.le_of_ble_eq_true rfl | (dsimp only; omega)), _, rfl, ?_⟩
          | refine ⟨Fits.mk (by first | exact Nat.le_of_ble_eq_true rfl | (dsimp only; omega)), _, rfl, ?_⟩
          | refine draw_go (C_ok W0) (by kernel_rfl) ?_
          | refine ⟨cpt_ok (by kernel_rfl), ?_⟩
          | refine ⟨InB.mk (by first | decide | omega) (by first | decide | omega), ?_⟩
          | refine ⟨SlB.mk (by first | omega | decide) (by first | omega | decide) (by first | omega | decide), ?_⟩
          | refine ⟨ShB.mk (by first | decide | omega), ?_⟩
          | refine ⟨NzB.mk (by first | decide | omega), ?_⟩
          | refine ⟨by decide, MkB.mk (by omega) (by omega) (by omega) (by omega), ?_⟩
          | refine ⟨trivial, ?_⟩
          | refine ⟨by decide, rfl, by decide, ?_⟩
          | refine .inr ⟨by decide, _, _, _, _, _, rfl, rfl, Fits.mk (by first | exact Nat.le_of_ble_eq_true rfl | omega), ?_⟩
          | refine .inr ⟨by decide, by decide, Room.mk (by decide) (by decide), ?_⟩
          | refine .inr ⟨by decide, _, _, _, _, _, rfl, rfl, Room.mk (by omega) (by omega), .inr (.inr ⟨(by omega), rfl, rfl, rfl, (by first | omega | (simp; done) | (simp; omega)), (by omega), rfl, ?_⟩)⟩
          | refine ⟨by decide, ?_⟩
          | refine ⟨subHi_le _ _ _, ?_⟩
          | refine ⟨_, rfl, ?_⟩
          | fail
        refine loop_I (C_ok W0) (fun (p : Nat × List Int) => p.2.length = 4 + p.1 ∧ p.1 ≤ 4 ∧ Lm p.2 ∧ nv p.2 = mag v % 18446744073709551616 + B 4 * (mag v / 18446744073709551616 % B p.1))
          (fun p => [(2, .pointer (some ⟨0, 0, none⟩)), (3, gsV 1 p.2), (4, .int .u64 (mag v / 18446744073709551616)), (6, .bool (decide (v / 18446744073709551616 < 0))), (8, .int .i64 p.1)])
          (fun p => [num0, gbV p.2]) (fun p => 4 - p.1) (0, x :: r) ⟨h4, Nat.zero_le 4, hl, by rw [hv]; simp [B_zero, Int.emod_one]⟩ ⟨_, rfl, RT.of_eq rfl rfl⟩ ?_
        rintro ⟨j, o⟩ ⟨ho, hj, hl, hv⟩
        dsimp only at ho hj hl hv ⊢
        have hhi : 0 ≤ mag v / 18446744073709551616 ∧ mag v / 18446744073709551616 < 18446744073709551616 := by
          have : mag v ≤ 170141183460469231731687303715884105728 := by unfold mag; split <;> omega
          omega
        cases o with
        | nil => simp at ho; omega
        | cons y t =>
          have hcl : (y :: t).length = t.length + 1 := rfl
          have hol : (u32s (y :: t)).length = t.length + 1 := by simp
          have ht : t.length + 1 = 4 + j := ho
          by_cases g : j < 4
          · have lm := limb_at (mag v / 18446744073709551616) hhi.1 hhi.2 j g
            have hpl := place_u j g
            have st := hi_step _ _ hhi.1 (y :: t) j _ ho hv rfl hl
            repeat' first
              | refine brP.tD (by omega) ?_
              | refine brP.fD (by omega) ?_
              | refine brP.tN (by omega) ?_
              | refine brP.fN (by omega) ?_
              | (apply Here.norm; (first | dsimp only [Env.putR, argEnv, pure1, newPtr, applyE, hset, List.length_cons, List.length_nil, List.length_append, List.set, List.cons_append, List.nil_append] | rfl); (first | dsimp only [Env.putR, argEnv, pure1, newPtr, applyE, hset, List.length_cons, List.length_nil, List.length_append, List.set, List.cons_append, List.nil_append] | rfl))
              | refine brP.t (by assumption) ?_
              | refine brP.f (by assumption) ?_
              | refine brP.tD (by assumption) ?_
              | refine brP.fD (by assumption) ?_
              | refine brP.tN (by assumption) ?_
              | refine brP.fN (by assumption) ?_
              | refine brP.introD (fun h => ?_) (fun h => ?_)
              | refine brP.introN (fun h => ?_) (fun h => ?_)
              | refine brP.intro (fun h => ?_) (fun h => ?_)
              | refine ⟨_, _, _, _, _, rfl, rfl, rfl, Fits.mk (by first | exact Nat.le_of_ble_eq_true rfl | (dsimp only; omega)), rfl, ?_⟩
              | refine ⟨_, _, _, _, _, rfl, _, rfl, ?_⟩
              | refine ⟨_, _, _, _, _, rfl, Fits.mk (by first | exact Nat.le_of_ble_eq_true rfl | (dsimp only; omega)), _, rfl, ?_⟩
              | refine ⟨Fits.mk (by first | exact Nat.le_of_ble_eq_true rfl | (dsimp only; omega)), _, rfl, ?_⟩
              | refine draw_go (C_ok W0) (by kernel_rfl) ?_
              | refine ⟨cpt_ok (by kernel_rfl), ?_⟩
              | refine ⟨InB.mk (by first | decide | omega) (by first | decide | omega), ?_⟩
              | refine ⟨SlB.mk (by first | omega | decide) (by first | omega | decide) (by first | omega | decide), ?_⟩
              | refine ⟨ShB.mk (by first | decide | omega), ?_⟩
              | refine ⟨NzB.mk (by first | decide | omega), ?_⟩
              | refine ⟨by decide, MkB.mk (by omega) (by omega) (by omega) (by omega), ?_⟩
              | refine ⟨trivial, ?_⟩
              | refine ⟨by decide, rfl, by decide, ?_⟩
              | refine .inr ⟨by decide, _, _, _, _, _, rfl, rfl, Fits.mk (by first | exact Nat.le_of_ble_eq_true rfl | omega), ?_⟩
              | refine .inr ⟨by decide, by decide, Room.mk (by decide) (by decide), ?_⟩
              | refine .inr ⟨by decide, _, _, _, _, _, rfl, rfl, Room.mk (by omega) (by omega), .inr (.inr ⟨(by omega), rfl, rfl, rfl, (by first | omega | (simp; done) | (simp; omega)), (by omega), rfl, ?_⟩)⟩
              | refine ⟨by decide, ?_⟩
              | refine ⟨subHi_le _ _ _, ?_⟩
              | refine ⟨_, rfl, ?_⟩
              | fail
            apply Again.mk (j + 1, y :: t ++ [mag v / 18446744073709551616 / B j % 65536])
            · exact ⟨by simp only [List.length_append, List.length_cons, List.length_nil]; omega, by dsimp only; omega, st.1, by simpa using st.2⟩
            · dsimp only; omega
            · refine ⟨_, rfl, ?_⟩
              dsimp only [List.map]
              rw [gsV_snoc, gbV_snoc]
              refine RT.ren [0, 3] rfl rfl ?_ ?_
              all_goals (repeat' first
                | exact trivial
                | exact LTo.nil
                | refine ⟨⟨_, rfl, ?_, (fun z => by cases z)⟩, ?_⟩
                | refine BTo.cells (fun z => z) ?_
                | refine BTo.cells (fun z => by cases z) ?_
                | exact VTo.ptr (by decide)
                | exact VTo.slice (by decide)
                | exact VTo.map (by decide)
                | exact VTo.emptyN _
                | refine LTo.cons ?_ ?_
                | refine VTo.int ?_
                | refine VTo.bool ?_
                | refine VTo.string ?_
                | refine VTo.agg ?_
                | refine VTo.tuple ?_
                | exact VTo.same _
                | (with_reducible rfl)
                | exact VTo.n rfl
                | exact LTo.n rfl
                | refine LTo.n ?_
                | refine VTo.n ?_
                )
              · exact u32s_snoc rfl lm
              · rw [wrap_in (by omega)]; omega
          · have hj4 : j = 4 := by omega
            subst hj4
            have mk := ref_make2 (W0 := W0) (decide (v / 18446744073709551616 < 0)) (y :: t) hl (by omega)
            have e1 : List.take ((t.length + 1) * 1) (List.drop 0 (u32s (y :: t))) = u32s (y :: t) := by rw [Nat.mul_one, List.drop_zero, List.take_of_length_le (by simp)]
            have e2 : nv (y :: t) = mag v := by rw [hv, B4]; omega
            have e3 : (if decide (v / 18446744073709551616 < 0) = true then -mag v else mag v) = v := by
              simp only [decide_eq_true_eq]
              unfold mag
              split <;> split <;> omega
            rw [e2, e3] at mk
            repeat' first
              | refine brP.tD (by omega) ?_
              | refine brP.fD (by omega) ?_
              | refine brP.tN (by omega) ?_
              | refine brP.fN (by omega) ?_
              | refine (mk.give1 1 (.cons (.same _) (.cons (VTo.fz' (by simp) e1) .nil)) _).call (by first | exact trivial | exact ⟨rfl, trivial⟩ | exact ⟨rfl, rfl, trivial⟩) ?_
              | refine .inr ⟨_, mk.give1 1 (.cons (.same _) (.cons (VTo.fz' (by simp) e1) .nil)) _, (by first | exact trivial | exact ⟨rfl, trivial⟩ | exact ⟨rfl, rfl, trivial⟩), ?_⟩
              | (apply Here.norm; (first | dsimp only [Env.putR, argEnv, pure1, newPtr, applyE, hset, List.length_cons, List.length_nil, List.length_append, List.set, List.cons_append, List.nil_append] | rfl); (first | dsimp only [Env.putR, argEnv, pure1, newPtr, applyE, hset, List.length_cons, List.length_nil, List.length_append, List.set, List.cons_append, List.nil_append] | rfl))
              | refine brP.t (by assumption) ?_
              | refine brP.f (by assumption) ?_
              | refine brP.tD (by assumption) ?_
              | refine brP.fD (by assumption) ?_
              | refine brP.tN (by assumption) ?_
              | refine brP.fN (by assumption) ?_
              | refine brP.introD (fun h => ?_) (fun h => ?_)
              | refine brP.introN (fun h => ?_) (fun h => ?_)
              | refine brP.intro (fun h => ?_) (fun h => ?_)
              | refine ⟨_, _, _, _, _, rfl, rfl, rfl, Fits.mk (by first | exact Nat.le_of_ble_eq_true rfl | (dsimp only; omega)), rfl, ?_⟩
              | refine ⟨_, _, _, _, _, rfl, _, rfl, ?_⟩
              | refine ⟨_, _, _, _, _, rfl, Fits.mk (by first | exact Nat.le_of_ble_eq_true rfl | (dsimp only; omega)), _, rfl, ?_⟩
              | refine ⟨Fits.mk (by first | exact Nat.le_of_ble_eq_true rfl | (dsimp only; omega)), _, rfl, ?_⟩
              | refine draw_go (C_ok W0) (by kernel_rfl) ?_
              | refine ⟨cpt_ok (by kernel_rfl), ?_⟩
              | refine ⟨InB.mk (by first | decide | omega) (by first | decide | omega), ?_⟩
              | refine ⟨SlB.mk (by first | omega | decide) (by first | omega | decide) (by first | omega | decide), ?_⟩
              | refine ⟨ShB.mk (by first | decide | omega), ?_⟩
              | refine ⟨NzB.mk (by first | decide | omega), ?_⟩
              | refine ⟨by decide, MkB.mk (by omega) (by omega) (by omega) (by omega), ?_⟩
              | refine ⟨trivial, ?_⟩
              | refine ⟨by decide, rfl, by decide, ?_⟩
              | refine .inr ⟨by decide, _, _, _, _, _, rfl, rfl, Fits.mk (by first | exact Nat.le_of_ble_eq_true rfl | omega), ?_⟩
              | refine .inr ⟨by decide, by decide, Room.mk (by decide) (by decide), ?_⟩
              | refine .inr ⟨by decide, _, _, _, _, _, rfl, rfl, Room.mk (by omega) (by omega), .inr (.inr ⟨(by omega), rfl, rfl, rfl, (by first | omega | (simp; done) | (simp; omega)), (by omega), rfl, ?_⟩)⟩
              | refine ⟨by decide, ?_⟩
              | refine ⟨subHi_le _ _ _, ?_⟩
              | refine ⟨_, rfl, ?_⟩
              | fail
            rfl
end Go.Proofs.YtcfhmbhlibhlnaaDoor
