import Derived.Test.YtcfhmbhlibhlnaaDoorKWc
set_option linter.unusedVariables false
set_option linter.unusedSimpArgs false
namespace Go.Proofs.YtcfhmbhlibhlnaaDoor
open Go Go.Den
variable {W0 : World}
/-- A row of wide numbers, by their cells. -/
def wcells : List Int → List Value
  | [] => []
  | v :: r => .int .i64 (v / 18446744073709551616) :: .int .u64 (v % 18446744073709551616) :: wcells r
theorem wcells_len : ∀ us : List Int, (wcells us).length = 2 * us.length
  | [] => rfl
  | v :: r => by simp only [wcells, List.length_cons, wcells_len r]; omega
theorem wcells_af : ∀ (us : List Int) (v : Value), v ∈ wcells us → AF v
  | [], v, h => by cases h
  | u :: r, v, h => by
    rcases List.mem_cons.mp h with rfl | h
    · exact .int _ _
    · rcases List.mem_cons.mp h with rfl | h
      · exact .int _ _
      · exact wcells_af r v h
theorem wcells_at : ∀ (us : List Int) (i : Nat) (v : Int), us[i]? = some v → ((wcells us).drop (i * 2)).take 2 = [.int .i64 (v / 18446744073709551616), .int .u64 (v % 18446744073709551616)]
  | [], i, v, h => by cases h
  | u :: r, 0, v, h => by cases h; rfl
  | u :: r, i + 1, v, h => by
    have := wcells_at r i v (by simpa using h)
    rw [show (i + 1) * 2 = i * 2 + 1 + 1 by omega]
    exact this
abbrev s3 (s : Int) : List Value := [.int .u64 (s % 18446744073709551616), .int .u64 (s / 18446744073709551616 % 18446744073709551616), .int .u64 (s / 340282366920938463463374607431768211456 % 18446744073709551616)]
def tot (us : List Int) (j : Nat) : Int := (us.take j).sum
theorem add3 (S v : Int) (hv : R v) : addHi (S % 18446744073709551616) (v % 18446744073709551616) 0 ≤ 1 ∧ addLo (S % 18446744073709551616) (v % 18446744073709551616) 0 = (S + v) % 18446744073709551616 ∧
    addHi (S / 18446744073709551616 % 18446744073709551616) (IntKind.u64.wrap (v / 18446744073709551616)) (addHi (S % 18446744073709551616) (v % 18446744073709551616) 0) ≤ 1 ∧
    addLo (S / 18446744073709551616 % 18446744073709551616) (IntKind.u64.wrap (v / 18446744073709551616)) (addHi (S % 18446744073709551616) (v % 18446744073709551616) 0) = (S + v) / 18446744073709551616 % 18446744073709551616 ∧
    addLo (S / 340282366920938463463374607431768211456 % 18446744073709551616) (IntKind.u64.wrap (shrV .i64 (v / 18446744073709551616) 63))
      (addHi (S / 18446744073709551616 % 18446744073709551616) (IntKind.u64.wrap (v / 18446744073709551616)) (addHi (S % 18446744073709551616) (v % 18446744073709551616) 0)) = (S + v) / 340282366920938463463374607431768211456 % 18446744073709551616 := by
  have hh : Hi (v / 18446744073709551616) := by unfold R at hv; unfold Hi; omega
  rw [shr63 _ hh, wrap_u64, wrap_u64]
  have e0 := addHi_is _ _ 0 (U_mod S) (U_mod v) (by omega) (by omega)
  have l0 := addLo_is _ _ 0 (U_mod S) (U_mod v) (by omega) (by omega)
  rw [e0, l0]
  generalize hc : (S % 18446744073709551616 + v % 18446744073709551616 + 0) / 18446744073709551616 = c
  have hc1 : 0 ≤ c ∧ c ≤ 1 := by omega
  have e1 := addHi_is _ _ c (U_mod (S / 18446744073709551616)) (U_mod (v / 18446744073709551616)) hc1.1 hc1.2
  have l1 := addLo_is _ _ c (U_mod (S / 18446744073709551616)) (U_mod (v / 18446744073709551616)) hc1.1 hc1.2
  rw [e1, l1]
  generalize hd : (S / 18446744073709551616 % 18446744073709551616 + v / 18446744073709551616 % 18446744073709551616 + c) / 18446744073709551616 = d
  have hd1 : 0 ≤ d ∧ d ≤ 1 := by omega
  have l2 := addLo_is _ _ d (U_mod (S / 340282366920938463463374607431768211456)) (U_mod (v / 18446744073709551616 / 18446744073709551616)) hd1.1 hd1.2
  rw [l2]
  clear e0 l0 e1 l1 l2 hh hv
  omega
theorem tot_succ {us : List Int} {j : Nat} {v : Int} (h : us[j]? = some v) : tot us (j + 1) = tot us j + v := by
  unfold tot
  rw [List.take_add_one, h]
  simp
theorem tot_all (us : List Int) : tot us us.length = us.sum := by unfold tot; rw [List.take_length]
theorem tot_bound {us : List Int} (hR : ∀ v ∈ us, R v) : ∀ n : Nat, -(170141183460469231731687303715884105728 * (n : Int)) ≤ tot us n ∧ tot us n ≤ 170141183460469231731687303715884105728 * (n : Int)
  | 0 => by simp [tot]
  | n + 1 => by
    have ih := tot_bound hR n
    cases hv : us[n]? with
    | none =>
      have : tot us (n + 1) = tot us n := by
        unfold tot
        have hl : us.length ≤ n := List.getElem?_eq_none_iff.mp hv
        rw [List.take_of_length_le (by omega), List.take_of_length_le (by omega)]
      rw [this]; omega
    | some v =>
      have hb := hR v (List.mem_of_getElem? hv)
      unfold R at hb
      rw [tot_succ hv]; omega
theorem top3 (S : Int) (h : -1569275433846670190958947355801916604025588861116008628224 ≤ S ∧ S < 1569275433846670190958947355801916604025588861116008628224) :
    (S / 340282366920938463463374607431768211456 % 18446744073709551616 = IntKind.u64.wrap (shrV .i64 (IntKind.i64.wrap (S / 18446744073709551616 % 18446744073709551616)) 63) ↔ R S) ∧ (R S → IntKind.i64.wrap (S / 18446744073709551616 % 18446744073709551616) = S / 18446744073709551616) := by
  have hh : Hi (IntKind.i64.wrap (S / 18446744073709551616 % 18446744073709551616)) := by rw [wr_i64]; unfold Hi; omega
  rw [shr63 _ hh, wrap_u64, wr_i64]
  unfold R
  clear hh
  omega
instance {us : List Int} : NFs (wcells us) := ⟨fun v h => (wcells_af us v h).nf⟩
theorem wide_Sum (us : List Int) (hR : ∀ v ∈ us, R v) (hn : us.length < 9223372036854775808) : PureF (C W0) I.wide_Sum [LV (wcells us) us.length] (wev us.sum) := by
  refine PureF.E (CallP.of_body (C_ok W0) B.wide_Sum rfl rfl rfl ?_)
  repeat' first
    | (apply Here.norm; (first | dsimp only [Env.putR, argEnv, pure1, newPtr, applyE, hset, List.length_cons, List.length_nil, List.length_append, List.set, List.cons_append, List.nil_append] | rfl); (first | dsimp only [Env.putR, argEnv, pure1, newPtr, applyE, hset, List.length_cons, List.length_nil, List.length_append, List.set, List.cons_append, List.nil_append] | rfl))
    | refine brP.t (by assumption) ?_
    | refine brP.f (by assumption) ?_
    | refine brP.tD (by assumption) ?_
    | refine brP.fD (by assumption) ?_
    | refine brP.tN (by assumption) ?_
    | refine brP.fN (by assumption) ?_
    | refine brP.introD (fun h => ?_) (fun h => ?_)
    | refine brP.introN (fun h => ?_) (fun h => ?_)
    | refine brP.intro (fun h => ?_) (fun h => ?_)
    | refine ⟨_, _, _, _, _, rfl, rfl, rfl, Fits.mk (by first | exact Nat.le_of_ble_eq_true rfl | (dsimp only; omega)), rfl, ?_⟩
    | refine ⟨_, _, _, _, _, rfl, _, rfl, ?_⟩
    | refine ⟨_, _, _, _, _, rfl, Fits.mk (by first | exact Nat.le_of_ble_eq_true rfl | (dsimp only; omega)), _, rfl, ?_⟩
    | refine ⟨Fits.mk (by first | exact Nat.le_of_ble_eq_true rfl | (dsimp only; omega)), _, rfl, ?_⟩
    | refine draw_go (C_ok W0) (by kernel_rfl) ?_
    | refine ⟨cpt_ok (by kernel_rfl), ?_⟩
    | refine ⟨InB.mk (by first | decide | omega) (by first | decide | omega), ?_⟩
    | refine ⟨SlB.mk (by first | omega | decide) (by first | omega | decide) (by first | omega | decide), ?_⟩
    | refine ⟨ShB.mk (by first | decide | omega), ?_⟩
    | refine ⟨NzB.mk (by first | decide | omega), ?_⟩
    | refine ⟨by decide, MkB.mk (by omega) (by omega) (by omega) (by omega), ?_⟩
    | refine ⟨trivial, ?_⟩
    | refine ⟨by decide, rfl, by decide, ?_⟩
    | refine .inr ⟨by decide, _, _, _, _, _, rfl, rfl, Fits.mk (by first | exact Nat.le_of_ble_eq_true rfl | omega), ?_⟩
    | refine .inr ⟨by decide, by decide, Room.mk (by decide) (by decide), ?_⟩
    | refine .inr ⟨by decide, _, _, _, _, _, rfl, rfl, Room.mk (by omega) (by omega), .inr (.inr ⟨(by omega), rfl, rfl, rfl, (by first | omega | (simp; done) | (simp; omega)), (by omega), rfl, ?_⟩)⟩
    | refine ⟨by decide, ?_⟩
    | refine ⟨subHi_le _ _ _, ?_⟩
    | refine ⟨_, rfl, ?_⟩
    | fail
  refine loop_I (C_ok W0) (fun j : Nat => j ≤ us.length) (fun j => [(2, .pointer (some ⟨0, 0, none⟩)), (4, .pointer (some ⟨1, 0, none⟩)), (8, LV (wcells us) us.length), (9, .int .i64 us.length), (10, .int .i64 j)])
    (fun j => [.cells (wv 0).cells.toList 1 true false Y.api_Wide, .cells (s3 (tot us j)) 1 true false Y.arr_3_uint64]) (fun j => us.length - j) 0 (by omega) ⟨_, rfl, RT.of_eq rfl rfl⟩ ?_
  intro j hj
  dsimp only
  by_cases hjn : j < us.length
  · obtain ⟨v, hv⟩ : ∃ v, us[j]? = some v := ⟨us[j], by simp [hjn]⟩
    have hRv := hR v (List.mem_of_getElem? hv)
    have hlt : decide ((j : Int) < (us.length : Int)) = true := decide_eq_true (by omega)
    have hld : ((wcells us).drop (((j : Int).toNat) * 2)).take 2 = [.int .i64 (v / 18446744073709551616), .int .u64 (v % 18446744073709551616)] := wcells_at us j v hv
    have hle : ((j : Int).toNat) * 2 + 2 ≤ (wcells us).length := by rw [wcells_len]; omega
    have a3 := add3 (tot us j) v hRv
    repeat' first
      | refine brP.t hlt ?_
      | refine ⟨Fits.mk hle, _, hld, ?_⟩
      | refine ⟨a3.1, ?_⟩
      | refine ⟨a3.2.2.1, ?_⟩
      | (apply Here.norm; (first | dsimp only [Env.putR, argEnv, pure1, newPtr, applyE, hset, List.length_cons, List.length_nil, List.length_append, List.set, List.cons_append, List.nil_append] | rfl); (first | dsimp only [Env.putR, argEnv, pure1, newPtr, applyE, hset, List.length_cons, List.length_nil, List.length_append, List.set, List.cons_append, List.nil_append] | rfl))
      | refine brP.t (by assumption) ?_
      | refine brP.f (by assumption) ?_
      | refine brP.tD (by assumption) ?_
      | refine brP.fD (by assumption) ?_
      | refine brP.tN (by assumption) ?_
      | refine brP.fN (by assumption) ?_
      | refine brP.introD (fun h => ?_) (fun h => ?_)
      | refine brP.introN (fun h => ?_) (fun h => ?_)
      | refine brP.intro (fun h => ?_) (fun h => ?_)
      | refine ⟨_, _, _, _, _, rfl, rfl, rfl, Fits.mk (by first | exact Nat.le_of_ble_eq_true rfl | (dsimp only; omega)), rfl, ?_⟩
      | refine ⟨_, _, _, _, _, rfl, _, rfl, ?_⟩
      | refine ⟨_, _, _, _, _, rfl, Fits.mk (by first | exact Nat.le_of_ble_eq_true rfl | (dsimp only; omega)), _, rfl, ?_⟩
      | refine ⟨Fits.mk (by first | exact Nat.le_of_ble_eq_true rfl | (dsimp only; omega)), _, rfl, ?_⟩
      | refine draw_go (C_ok W0) (by kernel_rfl) ?_
      | refine ⟨cpt_ok (by kernel_rfl), ?_⟩
      | refine ⟨InB.mk (by first | decide | omega) (by first | decide | omega), ?_⟩
      | refine ⟨SlB.mk (by first | omega | decide) (by first | omega | decide) (by first | omega | decide), ?_⟩
      | refine ⟨ShB.mk (by first | decide | omega), ?_⟩
      | refine ⟨NzB.mk (by first | decide | omega), ?_⟩
      | refine ⟨by decide, MkB.mk (by omega) (by omega) (by omega) (by omega), ?_⟩
      | refine ⟨trivial, ?_⟩
      | refine ⟨by decide, rfl, by decide, ?_⟩
      | refine .inr ⟨by decide, _, _, _, _, _, rfl, rfl, Fits.mk (by first | exact Nat.le_of_ble_eq_true rfl | omega), ?_⟩
      | refine .inr ⟨by decide, by decide, Room.mk (by decide) (by decide), ?_⟩
      | refine .inr ⟨by decide, _, _, _, _, _, rfl, rfl, Room.mk (by omega) (by omega), .inr (.inr ⟨(by omega), rfl, rfl, rfl, (by first | omega | (simp; done) | (simp; omega)), (by omega), rfl, ?_⟩)⟩
      | refine ⟨by decide, ?_⟩
      | refine ⟨subHi_le _ _ _, ?_⟩
      | refine ⟨_, rfl, ?_⟩
      | fail
    apply Again.mk (j + 1)
    · (try dsimp only); omega
    · (try dsimp only); omega
    refine ⟨_, rfl, ?_⟩
    have ht := tot_succ hv
    rw [← ht] at a3
    refine RT.ren [0, 1] rfl rfl ?_ ?_
    all_goals (repeat' first
      | exact trivial
      | exact LTo.nil
      | refine ⟨⟨_, rfl, ?_, (fun z => by cases z)⟩, ?_⟩
      | refine BTo.cells (fun z => z) ?_
      | refine BTo.cells (fun z => by cases z) ?_
      | exact VTo.ptr (by decide)
      | exact VTo.slice (by decide)
      | exact sliceE (by decide) (by omega)
      | exact VTo.map (by decide)
      | exact VTo.emptyN _
      | refine LTo.cons ?_ ?_
      | refine VTo.int ?_
      | refine VTo.bool ?_
      | refine VTo.string ?_
      | refine VTo.agg ?_
      | refine VTo.tuple ?_
      | exact VTo.same _
      | (with_reducible rfl)
      | exact VTo.n rfl
      | exact LTo.n rfl
      | refine LTo.n ?_
      | refine VTo.n ?_
      )
    · exact a3.2.1
    · exact a3.2.2.2.1
    · exact a3.2.2.2.2
    · rw [wr_i64]; omega
  · have hjn : j = us.length := by omega
    subst hjn
    have hlt : decide ((us.length : Int) < (us.length : Int)) = false := decide_eq_false (by omega)
    have hb := tot_bound hR us.length
    have h3 := top3 (tot us us.length) (by omega)
    rw [← tot_all us]
    generalize tot us us.length = S at *
    repeat' first
      | refine brP.f hlt ?_
      | refine wev_out ?_
      | refine wev_in ?_ ?_ ?_
      | (apply Here.norm; (first | dsimp only [Env.putR, argEnv, pure1, newPtr, applyE, hset, List.length_cons, List.length_nil, List.length_append, List.set, List.cons_append, List.nil_append] | rfl); (first | dsimp only [Env.putR, argEnv, pure1, newPtr, applyE, hset, List.length_cons, List.length_nil, List.length_append, List.set, List.cons_append, List.nil_append] | rfl))
      | refine brP.t (by assumption) ?_
      | refine brP.f (by assumption) ?_
      | refine brP.tD (by assumption) ?_
      | refine brP.fD (by assumption) ?_
      | refine brP.tN (by assumption) ?_
      | refine brP.fN (by assumption) ?_
      | refine brP.introD (fun h => ?_) (fun h => ?_)
      | refine brP.introN (fun h => ?_) (fun h => ?_)
      | refine brP.intro (fun h => ?_) (fun h => ?_)
      | refine ⟨_, _, _, _, _, rfl, rfl, rfl, Fits.mk (by first | exact Nat.le_of_ble_eq_true rfl | (dsimp only; omega)), rfl, ?_⟩
      | refine ⟨_, _, _, _, _, rfl, _, rfl, ?_⟩
      | refine ⟨_, _, _, _, _, rfl, Fits.mk (by first | exact Nat.le_of_ble_eq_true rfl | (dsimp only; omega)), _, rfl, ?_⟩
      | refine ⟨Fits.mk (by first | exact Nat.le_of_ble_eq_true rfl | (dsimp only; omega)), _, rfl, ?_⟩
      | refine draw_go (C_ok W0) (by kernel_rfl) ?_
      | refine ⟨cpt_ok (by kernel_rfl), ?_⟩
      | refine ⟨InB.mk (by first | decide | omega) (by first | decide | omega), ?_⟩
      | refine ⟨SlB.mk (by first | omega | decide) (by first | omega | decide) (by first | omega | decide), ?_⟩
      | refine ⟨ShB.mk (by first | decide | omega), ?_⟩
      | refine ⟨NzB.mk (by first | decide | omega), ?_⟩
      | refine ⟨by decide, MkB.mk (by omega) (by omega) (by omega) (by omega), ?_⟩
      | refine ⟨trivial, ?_⟩
      | refine ⟨by decide, rfl, by decide, ?_⟩
      | refine .inr ⟨by decide, _, _, _, _, _, rfl, rfl, Fits.mk (by first | exact Nat.le_of_ble_eq_true rfl | omega), ?_⟩
      | refine .inr ⟨by decide, by decide, Room.mk (by decide) (by decide), ?_⟩
      | refine .inr ⟨by decide, _, _, _, _, _, rfl, rfl, Room.mk (by omega) (by omega), .inr (.inr ⟨(by omega), rfl, rfl, rfl, (by first | omega | (simp; done) | (simp; omega)), (by omega), rfl, ?_⟩)⟩
      | refine ⟨by decide, ?_⟩
      | refine ⟨subHi_le _ _ _, ?_⟩
      | refine ⟨_, rfl, ?_⟩
      | fail
    all_goals (try simp only [Bool.not_eq_true', Bool.not_eq_false', decide_eq_true_eq, decide_eq_false_iff_not] at *)
    · rw [← h3.1]; assumption
    · rw [← h3.1]; assumption
    · exact h3.2 (h3.1.mp (by assumption))
end Go.Proofs.YtcfhmbhlibhlnaaDoor
