import Derived.Test.YtkocmbgpiidkdaaGreatDoorKGb
set_option linter.unusedVariables false
set_option linter.unusedSimpArgs false
namespace Go.Proofs.YtkocmbgpiidkdaaGreatDoor
open Go Go.Den Go.RowKit
variable {W0 : World}
/-! tumblerlaw10: awake -/
attribute [local irreducible] quo3 beginV
theorem rec_same {p q : ByteArray} {a b c d e f : Int} (h1 : p = q) (h2 : a = b) (h3 : c = d) (h4 : e = f) : (!(decide (p = q) && (decide (a = b) && (decide (c = d) && (decide (e = f) && true))))) = false := by subst h1; subst h2; subst h3; subst h4; simp
abbrev sStats : ByteArray := ⟨#[115, 116, 97, 116, 115]⟩
abbrev pCount : ByteArray := sStats ++ ⟨#[46]⟩ ++ (⟨#[99, 111, 117, 110, 116, 101, 114, 115, 46]⟩ ++ ⟨#[97]⟩ ++ ⟨#[46, 99, 111, 117, 110, 116]⟩)
abbrev pRate : ByteArray := sStats ++ ⟨#[46]⟩ ++ (⟨#[99, 111, 117, 110, 116, 101, 114, 115, 46]⟩ ++ ⟨#[97]⟩ ++ ⟨#[46, 114, 97, 116, 101]⟩)
theorem pcount_is : pCount = bs [115, 116, 97, 116, 115, 46, 99, 111, 117, 110, 116, 101, 114, 115, 46, 97, 46, 99, 111, 117, 110, 116] := by kernel_rfl
theorem prate_is : pRate = bs [115, 116, 97, 116, 115, 46, 99, 111, 117, 110, 116, 101, 114, 115, 46, 97, 46, 114, 97, 116, 101] := by kernel_rfl
theorem pshare_is : shareV 25000000 10 = (2500000, 0) := by
  rw [shareV, if_neg (by decide)]
  have : quo3 25000000 10 = (2500000, 0, 0) := by
    rw [quo3, if_neg (by decide), if_pos (by unfold R; decide)]
    refine Prod.ext (by decide) (Prod.ext (by decide) rfl)
  rw [this]
theorem pbegin_is : beginV 3 10 = (30, 0) := by
  unfold beginV
  rw [if_neg (by decide), timesV, if_neg (by decide)]
  refine Prod.ext (by decide) rfl
theorem cmp_rate : Extern.BytealgCompare.cmp pRate pCount = 1 := by kernel_rfl
set_option maxRecDepth 20000 in
set_option maxHeartbeats 16000000 in
theorem flush_awake (hW : WF W0) : PureF (C W0) I.tumblerlaw10_awake [] (.bool true) := by
  have ck := check_nil hW [115, 116, 97, 116, 115] (by decide) (.inr (by kernel_rfl))
  have bg := window_Begin (W0 := W0) 3 10
  rw [pbegin_is] at bg
  have nA := name_Valid hW [97] (by decide)
  rw [show okName [97] = true by kernel_rfl] at nA
  have nC := name_Valid hW [115, 116, 97, 116, 115, 46, 99, 111, 117, 110, 116, 101, 114, 115, 46, 97, 46, 99, 111, 117, 110, 116] (by decide)
  rw [show okName [115, 116, 97, 116, 115, 46, 99, 111, 117, 110, 116, 101, 114, 115, 46, 97, 46, 99, 111, 117, 110, 116] = true by kernel_rfl, ← pcount_is] at nC
  have nR := name_Valid hW [115, 116, 97, 116, 115, 46, 99, 111, 117, 110, 116, 101, 114, 115, 46, 97, 46, 114, 97, 116, 101] (by decide)
  rw [show okName [115, 116, 97, 116, 115, 46, 99, 111, 117, 110, 116, 101, 114, 115, 46, 97, 46, 114, 97, 116, 101] = true by kernel_rfl, ← prate_is] at nR
  have sh := micro_Share (W0 := W0) 25000000 10 (by unfold R; decide) (by unfold Hi; decide)
  rw [pshare_is] at sh
  have cm := fun a b c d e f => flush_cmp (W0 := W0) pRate pCount a b c d e f
  rw [cmp_rate] at cm
  refine PureF.E (CallP.of_body (C_ok W0) B.tumblerlaw10_awake rfl rfl rfl ?_)
  repeat' first
    | refine .inr ⟨by decide, _, _, _, _, _, rfl, rfl, Room.mk (by decide) (by decide), .inr (.inr ⟨by decide, rfl, rfl, rfl, rfl, by decide, rfl, ?_⟩)⟩
    | refine loop_N (C_ok W0) 4 ?_
    | refine rounds_s ?_
    | refine (ck).call ?_
    | refine (bg).call ?_
    | refine (nA).call ?_
    | refine (nC).call ?_
    | refine (nR).call ?_
    | refine .inl ⟨_, sh, ?_⟩
    | refine .inl ⟨_, (itoa_1 (W0 := W0)), ?_⟩
    | refine .inl ⟨_, (cm _ _ _ _ _ _), ?_⟩
    | refine (CallP.of_body (C_ok W0) B.flush_Records rfl rfl rfl ?_)
    | refine (CallP.of_body (C_ok W0) B.flush_ways rfl rfl rfl ?_)
    | refine (CallP.of_body (C_ok W0) B.flush_book_counter rfl rfl rfl ?_)
    | refine (CallP.of_body (C_ok W0) B.flush_book_rate rfl rfl rfl ?_)
    | refine (CallP.of_body (C_ok W0) B.flush_book_put rfl rfl rfl ?_)
    | refine (CallP.of_body (C_ok W0) B.slices_SortFunc_api_Record_api_Record rfl rfl rfl ?_)
    | refine (CallP.of_body (C_ok W0) B.slices_pdqsortCmpFunc_api_Record rfl rfl rfl ?_)
    | refine (CallP.of_body (C_ok W0) B.slices_insertionSortCmpFunc_api_Record rfl rfl rfl ?_)
    | refine (CallP.of_body (C_ok W0) B.math_bits_Len rfl rfl rfl ?_)
    | refine (CallP.of_body (C_ok W0) B.math_bits_Len64 rfl rfl rfl ?_)
    | refine (CallP.of_body (C_ok W0) B.tumblerref10_Same rfl rfl rfl ?_)
    | (refine ⟨rfl, _, _, _, rfl, rfl, ?_⟩; dsimp only [lookV, updM])
    | (apply Here.norm; (first | dsimp only [Env.putR, argEnv, pure1, newPtr, applyE, hset, List.length_cons, List.length_nil, List.length_append, List.set, List.cons_append, List.nil_append] | rfl); (first | dsimp only [Env.putR, argEnv, pure1, newPtr, applyE, hset, List.length_cons, List.length_nil, List.length_append, List.set, List.cons_append, List.nil_append] | rfl))
    | refine ⟨_, _, _, _, _, rfl, rfl, rfl, Fits.mk (by first | exact Nat.le_of_ble_eq_true rfl | (dsimp only; omega)), rfl, ?_⟩
    | refine ⟨_, _, _, _, _, rfl, _, rfl, ?_⟩
    | refine ⟨_, _, _, _, _, rfl, Fits.mk (by first | exact Nat.le_of_ble_eq_true rfl | (dsimp only; omega)), _, rfl, ?_⟩
    | refine draw_go (C_ok W0) (by kernel_rfl) ?_
    | refine ⟨cpt_ok (by kernel_rfl), ?_⟩
    | refine ⟨InB.mk (by first | decide | omega) (by first | decide | omega), ?_⟩
    | refine ⟨trivial, ?_⟩
    | refine ⟨by decide, rfl, by decide, ?_⟩
    | refine .inr ⟨by decide, _, _, _, _, _, rfl, rfl, Fits.mk (by first | exact Nat.le_of_ble_eq_true rfl | omega), ?_⟩
    | refine .inr ⟨by decide, by decide, Room.mk (by decide) (by decide), ?_⟩
    | refine ⟨by decide, ?_⟩
    | refine ⟨_, rfl, ?_⟩
    | fail
  rfl
end Go.Proofs.YtkocmbgpiidkdaaGreatDoor
