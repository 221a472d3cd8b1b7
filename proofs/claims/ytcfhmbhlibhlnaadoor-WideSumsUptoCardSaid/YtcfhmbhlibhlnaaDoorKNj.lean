import Derived.Test.YtcfhmbhlibhlnaaDoorKNi
set_option linter.unusedVariables false
set_option linter.unusedSimpArgs false
namespace Go.Proofs.YtcfhmbhlibhlnaaDoor
open Go Go.Den Go.RowKit
variable {W0 : World}
theorem sum_Bd {us : List Int} (hR : ∀ v ∈ us, R v) (hn : us.length < 9223372036854775808) (j : Nat) (hj : j ≤ us.length) : Bd (tot us j) := by
  have := tot_bound hR j
  refine Bd_of ?_
  unfold mag
  split <;> omega
abbrev numB (x : Int) : ABlk := .cells (numV x).cells.toList 1 true false Y.tumblerref01_Num
theorem ref_Sum (us : List Int) (hR : ∀ v ∈ us, R v) (hn : us.length < 9223372036854775808) : PureF (C W0) I.tumblerref01_Sum [LV (wcells us) us.length] (wev us.sum) := by
  refine PureF.E (CallP.of_body (C_ok W0) B.tumblerref01_Sum rfl rfl rfl ?_)
  repeat' first
    | (apply Here.norm; (first | dsimp only [Env.putR, argEnv, pure1, newPtr, applyE, hset, List.length_cons, List.length_nil, List.length_append, List.set, List.cons_append, List.nil_append] | rfl); (first | dsimp only [Env.putR, argEnv, pure1, newPtr, applyE, hset, List.length_cons, List.length_nil, List.length_append, List.set, List.cons_append, List.nil_append] | rfl))
    | refine brP.t (by assumption) ?_
    | refine brP.f (by assumption) ?_
    | refine brP.tD (by assumption) ?_
    | refine brP.fD (by assumption) ?_
    | refine brP.tN (by assumption) ?_
    | refine brP.fN (by assumption) ?_
    | refine brP.introD (fun h => ?_) (fun h => ?_)
    | refine brP.introN (fun h => ?_) (fun h => ?_)
    | refine brP.intro (fun h => ?_) (fun h => ?_)
    | refine ⟨_, _, _, _, _, rfl, rfl, rfl, Fits.mk (by first | exact Nat.le_of_ble_eq_true rfl | (dsimp only; omega)), rfl, ?_⟩
    | refine ⟨_, _, _, _, _, rfl, _, rfl, ?_⟩
    | refine ⟨_, _, _, _, _, rfl, Fits.mk (by first | exact Nat.le_of_ble_eq_true rfl | (dsimp only; omega)), _, rfl, ?_⟩
    | refine ⟨Fits.mk (by first | exact Nat.le_of_ble_eq_true rfl | (dsimp only; omega)), _, rfl, ?_⟩
    | refine draw_go (C_ok W0) (by kernel_rfl) ?_
    | refine ⟨cpt_ok (by kernel_rfl), ?_⟩
    | refine ⟨InB.mk (by first | decide | omega) (by first | decide | omega), ?_⟩
    | refine ⟨SlB.mk (by first | omega | decide) (by first | omega | decide) (by first | omega | decide), ?_⟩
    | refine ⟨ShB.mk (by first | decide | omega), ?_⟩
    | refine ⟨NzB.mk (by first | decide | omega), ?_⟩
    | refine ⟨by decide, MkB.mk (by omega) (by omega) (by omega) (by omega), ?_⟩
    | refine ⟨trivial, ?_⟩
    | refine ⟨by decide, rfl, by decide, ?_⟩
    | refine .inr ⟨by decide, _, _, _, _, _, rfl, rfl, Fits.mk (by first | exact Nat.le_of_ble_eq_true rfl | omega), ?_⟩
    | refine .inr ⟨by decide, by decide, Room.mk (by decide) (by decide), ?_⟩
    | refine .inr ⟨by decide, _, _, _, _, _, rfl, rfl, Room.mk (by omega) (by omega), .inr (.inr ⟨(by omega), rfl, rfl, rfl, (by first | omega | (simp; done) | (simp; omega)), (by omega), rfl, ?_⟩)⟩
    | refine ⟨by decide, ?_⟩
    | refine ⟨subHi_le _ _ _, ?_⟩
    | refine ⟨_, rfl, ?_⟩
    | fail
  refine loop_I (C_ok W0) (fun j : Nat => j ≤ us.length) (fun j => [(0, LV (wcells us) us.length), (2, .pointer (some ⟨0, 0, none⟩)), (4, .pointer (some ⟨1, 0, none⟩)), (5, .int .i64 j)])
    (fun j => [.cells (wv 0).cells.toList 1 true false Y.api_Wide, numB (tot us j)]) (fun j => us.length - j) 0 (Nat.zero_le _) ⟨_, rfl, ?_⟩ ?_
  · dsimp only [List.map]
    rw [show tot us 0 = 0 from rfl]
    refine RT.ren [0, 1] rfl rfl ?_ ?_
    all_goals (repeat' first
      | exact trivial
      | exact LTo.nil
      | refine ⟨⟨_, rfl, ?_, (fun z => by cases z)⟩, ?_⟩
      | refine BTo.cells (fun z => z) ?_
      | refine BTo.cells (fun z => by cases z) ?_
      | exact VTo.ptr (by decide)
      | exact VTo.slice (by decide)
      | exact VTo.map (by decide)
      | exact VTo.emptyN _
      | refine LTo.cons ?_ ?_
      | refine VTo.int ?_
      | refine VTo.bool ?_
      | refine VTo.string ?_
      | refine VTo.agg ?_
      | refine VTo.tuple ?_
      | exact VTo.same _
      | (with_reducible rfl)
      | exact VTo.n rfl
      | exact LTo.n rfl
      | refine LTo.n ?_
      | refine VTo.n ?_
      )
    all_goals rfl
  intro j hj
  dsimp only
  by_cases hjn : j < us.length
  · obtain ⟨v, hv⟩ : ∃ v, us[j]? = some v := ⟨us[j], by simp [hjn]⟩
    have hRv := hR v (List.mem_of_getElem? hv)
    have hld : ((wcells us).drop (((j : Int).toNat) * 2)).take 2 = [.int .i64 (v / 18446744073709551616), .int .u64 (v % 18446744073709551616)] := wcells_at us j v hv
    have hle : ((j : Int).toNat) * 2 + 2 ≤ (wcells us).length := by rw [wcells_len]; omega
    have f := ref_From (W0 := W0) v hRv
    have ad := ref_AddN (W0 := W0) _ v (sum_Bd hR hn j hj) (Bd_R hRv)
    rw [← tot_succ hv] at ad
    repeat' first
      | refine brP.tD (by omega) ?_
      | refine brP.fD (by omega) ?_
      | refine brP.tN (by omega) ?_
      | refine brP.fN (by omega) ?_
      | refine ⟨Fits.mk hle, _, hld, ?_⟩
      | refine (f).call ?_
      | refine .inl ⟨_, f, ?_⟩
      | refine (ad).call ?_
      | refine .inl ⟨_, ad, ?_⟩
      | (apply Here.norm; (first | dsimp only [Env.putR, argEnv, pure1, newPtr, applyE, hset, List.length_cons, List.length_nil, List.length_append, List.set, List.cons_append, List.nil_append] | rfl); (first | dsimp only [Env.putR, argEnv, pure1, newPtr, applyE, hset, List.length_cons, List.length_nil, List.length_append, List.set, List.cons_append, List.nil_append] | rfl))
      | refine brP.t (by assumption) ?_
      | refine brP.f (by assumption) ?_
      | refine brP.tD (by assumption) ?_
      | refine brP.fD (by assumption) ?_
      | refine brP.tN (by assumption) ?_
      | refine brP.fN (by assumption) ?_
      | refine brP.introD (fun h => ?_) (fun h => ?_)
      | refine brP.introN (fun h => ?_) (fun h => ?_)
      | refine brP.intro (fun h => ?_) (fun h => ?_)
      | refine ⟨_, _, _, _, _, rfl, rfl, rfl, Fits.mk (by first | exact Nat.le_of_ble_eq_true rfl | (dsimp only; omega)), rfl, ?_⟩
      | refine ⟨_, _, _, _, _, rfl, _, rfl, ?_⟩
      | refine ⟨_, _, _, _, _, rfl, Fits.mk (by first | exact Nat.le_of_ble_eq_true rfl | (dsimp only; omega)), _, rfl, ?_⟩
      | refine ⟨Fits.mk (by first | exact Nat.le_of_ble_eq_true rfl | (dsimp only; omega)), _, rfl, ?_⟩
      | refine draw_go (C_ok W0) (by kernel_rfl) ?_
      | refine ⟨cpt_ok (by kernel_rfl), ?_⟩
      | refine ⟨InB.mk (by first | decide | omega) (by first | decide | omega), ?_⟩
      | refine ⟨SlB.mk (by first | omega | decide) (by first | omega | decide) (by first | omega | decide), ?_⟩
      | refine ⟨ShB.mk (by first | decide | omega), ?_⟩
      | refine ⟨NzB.mk (by first | decide | omega), ?_⟩
      | refine ⟨by decide, MkB.mk (by omega) (by omega) (by omega) (by omega), ?_⟩
      | refine ⟨trivial, ?_⟩
      | refine ⟨by decide, rfl, by decide, ?_⟩
      | refine .inr ⟨by decide, _, _, _, _, _, rfl, rfl, Fits.mk (by first | exact Nat.le_of_ble_eq_true rfl | omega), ?_⟩
      | refine .inr ⟨by decide, by decide, Room.mk (by decide) (by decide), ?_⟩
      | refine .inr ⟨by decide, _, _, _, _, _, rfl, rfl, Room.mk (by omega) (by omega), .inr (.inr ⟨(by omega), rfl, rfl, rfl, (by first | omega | (simp; done) | (simp; omega)), (by omega), rfl, ?_⟩)⟩
      | refine ⟨by decide, ?_⟩
      | refine ⟨subHi_le _ _ _, ?_⟩
      | refine ⟨_, rfl, ?_⟩
      | fail
    apply Again.mk (j + 1)
    · (try dsimp only); omega
    · (try dsimp only); omega
    refine ⟨_, rfl, ?_⟩
    refine RT.ren [0, 1] rfl rfl ?_ ?_
    all_goals (repeat' first
      | exact trivial
      | exact LTo.nil
      | refine ⟨⟨_, rfl, ?_, (fun z => by cases z)⟩, ?_⟩
      | refine BTo.cells (fun z => z) ?_
      | refine BTo.cells (fun z => by cases z) ?_
      | exact VTo.ptr (by decide)
      | exact VTo.slice (by decide)
      | exact VTo.map (by decide)
      | exact VTo.emptyN _
      | refine LTo.cons ?_ ?_
      | refine VTo.int ?_
      | refine VTo.bool ?_
      | refine VTo.string ?_
      | refine VTo.agg ?_
      | refine VTo.tuple ?_
      | exact VTo.same _
      | (with_reducible rfl)
      | exact VTo.n rfl
      | exact LTo.n rfl
      | refine LTo.n ?_
      | refine VTo.n ?_
      )
    rw [wrap_in (by omega)]; omega
  · have hjn : j = us.length := by omega
    subst hjn
    have ov := ref_over (W0 := W0) _ (sum_Bd hR hn us.length (Nat.le_refl _))
    rw [← tot_all us]
    repeat' first
      | refine brP.tD (by omega) ?_
      | refine brP.fD (by omega) ?_
      | refine brP.tN (by omega) ?_
      | refine brP.fN (by omega) ?_
      | refine (ov).call ?_
      | refine .inl ⟨_, ov, ?_⟩
      | (apply Here.norm; (first | dsimp only [Env.putR, argEnv, pure1, newPtr, applyE, hset, List.length_cons, List.length_nil, List.length_append, List.set, List.cons_append, List.nil_append] | rfl); (first | dsimp only [Env.putR, argEnv, pure1, newPtr, applyE, hset, List.length_cons, List.length_nil, List.length_append, List.set, List.cons_append, List.nil_append] | rfl))
      | refine brP.t (by assumption) ?_
      | refine brP.f (by assumption) ?_
      | refine brP.tD (by assumption) ?_
      | refine brP.fD (by assumption) ?_
      | refine brP.tN (by assumption) ?_
      | refine brP.fN (by assumption) ?_
      | refine brP.introD (fun h => ?_) (fun h => ?_)
      | refine brP.introN (fun h => ?_) (fun h => ?_)
      | refine brP.intro (fun h => ?_) (fun h => ?_)
      | refine ⟨_, _, _, _, _, rfl, rfl, rfl, Fits.mk (by first | exact Nat.le_of_ble_eq_true rfl | (dsimp only; omega)), rfl, ?_⟩
      | refine ⟨_, _, _, _, _, rfl, _, rfl, ?_⟩
      | refine ⟨_, _, _, _, _, rfl, Fits.mk (by first | exact Nat.le_of_ble_eq_true rfl | (dsimp only; omega)), _, rfl, ?_⟩
      | refine ⟨Fits.mk (by first | exact Nat.le_of_ble_eq_true rfl | (dsimp only; omega)), _, rfl, ?_⟩
      | refine draw_go (C_ok W0) (by kernel_rfl) ?_
      | refine ⟨cpt_ok (by kernel_rfl), ?_⟩
      | refine ⟨InB.mk (by first | decide | omega) (by first | decide | omega), ?_⟩
      | refine ⟨SlB.mk (by first | omega | decide) (by first | omega | decide) (by first | omega | decide), ?_⟩
      | refine ⟨ShB.mk (by first | decide | omega), ?_⟩
      | refine ⟨NzB.mk (by first | decide | omega), ?_⟩
      | refine ⟨by decide, MkB.mk (by omega) (by omega) (by omega) (by omega), ?_⟩
      | refine ⟨trivial, ?_⟩
      | refine ⟨by decide, rfl, by decide, ?_⟩
      | refine .inr ⟨by decide, _, _, _, _, _, rfl, rfl, Fits.mk (by first | exact Nat.le_of_ble_eq_true rfl | omega), ?_⟩
      | refine .inr ⟨by decide, by decide, Room.mk (by decide) (by decide), ?_⟩
      | refine .inr ⟨by decide, _, _, _, _, _, rfl, rfl, Room.mk (by omega) (by omega), .inr (.inr ⟨(by omega), rfl, rfl, rfl, (by first | omega | (simp; done) | (simp; omega)), (by omega), rfl, ?_⟩)⟩
      | refine ⟨by decide, ?_⟩
      | refine ⟨subHi_le _ _ _, ?_⟩
      | refine ⟨_, rfl, ?_⟩
      | fail
    rfl
theorem wideSums (us : List Int) (hR : ∀ v ∈ us, R v) (hn : us.length < 9223372036854775808) : PureF (C W0) I.tumblerlaw01_WideSums [LV (wcells us) us.length] (.bool true) := by
  have q := wide_Sum (W0 := W0) us hR hn
  have r := ref_Sum (W0 := W0) us hR hn
  have al := alive (W0 := W0)
  refine PureF.E (CallP.of_body (C_ok W0) B.tumblerlaw01_WideSums rfl rfl rfl ?_)
  repeat' first
    | refine (q).call ?_
    | refine .inl ⟨_, q, ?_⟩
    | refine (r).call ?_
    | refine .inl ⟨_, r, ?_⟩
    | refine (al).call ?_
    | refine .inl ⟨_, al, ?_⟩
    | (apply Here.norm; (first | dsimp only [Env.putR, argEnv, pure1, newPtr, applyE, hset, List.length_cons, List.length_nil, List.length_append, List.set, List.cons_append, List.nil_append] | rfl); (first | dsimp only [Env.putR, argEnv, pure1, newPtr, applyE, hset, List.length_cons, List.length_nil, List.length_append, List.set, List.cons_append, List.nil_append] | rfl))
    | refine brP.t (by assumption) ?_
    | refine brP.f (by assumption) ?_
    | refine brP.tD (by assumption) ?_
    | refine brP.fD (by assumption) ?_
    | refine brP.tN (by assumption) ?_
    | refine brP.fN (by assumption) ?_
    | refine brP.introD (fun h => ?_) (fun h => ?_)
    | refine brP.introN (fun h => ?_) (fun h => ?_)
    | refine brP.intro (fun h => ?_) (fun h => ?_)
    | refine ⟨_, _, _, _, _, rfl, rfl, rfl, Fits.mk (by first | exact Nat.le_of_ble_eq_true rfl | (dsimp only; omega)), rfl, ?_⟩
    | refine ⟨_, _, _, _, _, rfl, _, rfl, ?_⟩
    | refine ⟨_, _, _, _, _, rfl, Fits.mk (by first | exact Nat.le_of_ble_eq_true rfl | (dsimp only; omega)), _, rfl, ?_⟩
    | refine ⟨Fits.mk (by first | exact Nat.le_of_ble_eq_true rfl | (dsimp only; omega)), _, rfl, ?_⟩
    | refine draw_go (C_ok W0) (by kernel_rfl) ?_
    | refine ⟨cpt_ok (by kernel_rfl), ?_⟩
    | refine ⟨InB.mk (by first | decide | omega) (by first | decide | omega), ?_⟩
    | refine ⟨SlB.mk (by first | omega | decide) (by first | omega | decide) (by first | omega | decide), ?_⟩
    | refine ⟨ShB.mk (by first | decide | omega), ?_⟩
    | refine ⟨NzB.mk (by first | decide | omega), ?_⟩
    | refine ⟨by decide, MkB.mk (by omega) (by omega) (by omega) (by omega), ?_⟩
    | refine ⟨trivial, ?_⟩
    | refine ⟨by decide, rfl, by decide, ?_⟩
    | refine .inr ⟨by decide, _, _, _, _, _, rfl, rfl, Fits.mk (by first | exact Nat.le_of_ble_eq_true rfl | omega), ?_⟩
    | refine .inr ⟨by decide, by decide, Room.mk (by decide) (by decide), ?_⟩
    | refine .inr ⟨by decide, _, _, _, _, _, rfl, rfl, Room.mk (by omega) (by omega), .inr (.inr ⟨(by omega), rfl, rfl, rfl, (by first | omega | (simp; done) | (simp; omega)), (by omega), rfl, ?_⟩)⟩
    | refine ⟨by decide, ?_⟩
    | refine ⟨subHi_le _ _ _, ?_⟩
    | refine ⟨_, rfl, ?_⟩
    | fail
  all_goals first
    | rfl
    | (simp at h; done)
    | exact (h rfl).elim
end Go.Proofs.YtcfhmbhlibhlnaaDoor
