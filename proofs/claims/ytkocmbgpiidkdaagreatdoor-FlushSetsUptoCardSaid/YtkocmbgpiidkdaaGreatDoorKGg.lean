import Derived.Test.YtkocmbgpiidkdaaGreatDoorKGh
set_option linter.unusedVariables false
set_option linter.unusedSimpArgs false
namespace Go.Proofs.YtkocmbgpiidkdaaGreatDoor
open Go Go.Den Go.RowKit
variable {W0 : World}
/-! FlushSets -/
attribute [local irreducible] quo3 beginV shareV
abbrev fS : ByteArray := ⟨#[112, 46, 113]⟩ ++ ⟨#[46]⟩ ++ (⟨#[115, 101, 116, 115, 46]⟩ ++ ⟨#[115]⟩ ++ ⟨#[46, 99, 111, 117, 110, 116]⟩)
abbrev fG : ByteArray := ⟨#[112, 46, 113]⟩ ++ ⟨#[46]⟩ ++ (⟨#[103, 97, 117, 103, 101, 115, 46]⟩ ++ ⟨#[103]⟩)
theorem fS_is : fS = bs [112, 46, 113, 46, 115, 101, 116, 115, 46, 115, 46, 99, 111, 117, 110, 116] := by kernel_rfl
theorem fG_is : fG = bs [112, 46, 113, 46, 103, 97, 117, 103, 101, 115, 46, 103] := by kernel_rfl
theorem fcmp : Extern.BytealgCompare.cmp fG fS = -1 := by kernel_rfl
theorem fbegin : beginV 1 60 = (60, 0) := by
  unfold beginV
  rw [if_neg (by decide), timesV, if_neg (by decide)]
  refine Prod.ext (by decide) rfl
abbrev key1 : ByteArray := bs [52] ++ ⟨#[32]⟩ ++ ⟨#[115]⟩
abbrev key2 : ByteArray := bs [50] ++ ⟨#[32]⟩ ++ ⟨#[103]⟩
theorem k12 : mfind true (.string key2) [⟨.string key1, .int .i64 1, 0⟩] = some none := by kernel_rfl
theorem k22 : mfind true (.string key2) [⟨.string key1, .int .i64 1, 0⟩, ⟨.string key2, .int .i64 1, 1⟩] = some (some (1, .int .i64 1)) := by kernel_rfl
instance {us : List ByteArray} : NFs (us.map Value.string) := ⟨fun u h => by
  obtain ⟨n, _, rfl⟩ := List.mem_map.mp h
  exact .string _⟩
set_option maxRecDepth 20000 in
set_option maxHeartbeats 16000000 in
theorem flushSets (hW : WF W0) (us : List ByteArray) (v : Int) (hn : us.length ≤ 1048576) (hv : R v) : PureF (C W0) I.tumblerlaw10_FlushSets [LV (us.map .string) us.length, wv v] (.bool true) := by
  have ck := check_nil hW [112, 46, 113] (by decide) (.inr (by kernel_rfl))
  have bg := window_Begin (W0 := W0) 1 60
  rw [fbegin] at bg
  have nA := name_Valid hW [115] (by decide)
  rw [show okName [115] = true by kernel_rfl] at nA
  have nB := name_Valid hW [103] (by decide)
  rw [show okName [103] = true by kernel_rfl] at nB
  have nS := name_Valid hW [112, 46, 113, 46, 115, 101, 116, 115, 46, 115, 46, 99, 111, 117, 110, 116] (by decide)
  rw [show okName [112, 46, 113, 46, 115, 101, 116, 115, 46, 115, 46, 99, 111, 117, 110, 116] = true by kernel_rfl, ← fS_is] at nS
  have nG := name_Valid hW [112, 46, 113, 46, 103, 97, 117, 103, 101, 115, 46, 103] (by decide)
  rw [show okName [112, 46, 113, 46, 103, 97, 117, 103, 101, 115, 46, 103] = true by kernel_rfl, ← fG_is] at nG
  have un := flush_units (W0 := W0) us.length (by omega) (by omega)
  have pe := fun nid => put_eff (W0 := W0) 60 60 ((us.length : Int) * 1000000) ⟨#[112, 46, 113]⟩ (⟨#[115, 101, 116, 115, 46]⟩ ++ ⟨#[115]⟩ ++ ⟨#[46, 99, 111, 117, 110, 116]⟩) (by decide) (by decide) (by decide) nS 5 nid
  have p2 := fun nid => put2_eff (W0 := W0) 60 60 v ((us.length : Int) * 1000000) ⟨#[112, 46, 113]⟩ (⟨#[103, 97, 117, 103, 101, 115, 46]⟩ ++ ⟨#[103]⟩) fS (by decide) (by decide) (by decide) nG 5 10 nid (by decide)
  have so := fun nid => sort_eff (W0 := W0) fS fG ((us.length : Int) * 1000000) v 60 fcmp 13 nid
  have wm : IntKind.i64.wrap ((us.length : Int) * 1000000) = (us.length : Int) * 1000000 := by rw [wrap_in (by omega)]
  have wo : PureF (C W0) I.wide_Of [.int .i64 (IntKind.i64.wrap ((us.length : Int) * 1000000))] (wv ((us.length : Int) * 1000000)) := by rw [wm]; exact wide_Of _ (by unfold Hi; omega)
  have sm : PureF (C W0) I.tumblerref10_Same [LV (recL fG v 60 ++ recL fS ((us.length : Int) * 1000000) 60) 2, LV (recL ⟨#[112, 46, 113, 46, 103, 97, 117, 103, 101, 115, 46, 103]⟩ v 60 ++ recL ⟨#[112, 46, 113, 46, 115, 101, 116, 115, 46, 115, 46, 99, 111, 117, 110, 116]⟩ ((us.length : Int) * 1000000) 60) 2] (.bool true) := by
    rw [show fG = ⟨#[112, 46, 113, 46, 103, 97, 117, 103, 101, 115, 46, 103]⟩ from fG_is, show fS = ⟨#[112, 46, 113, 46, 115, 101, 116, 115, 46, 115, 46, 99, 111, 117, 110, 116]⟩ from fS_is]
    exact same2 _ _ _ _ _
  have se : ∀ nid, EffC (C W0) I.tumblerref10_Same [.slice (some ⟨13, 0, none⟩) 2 2, .slice (some ⟨14, 0, none⟩) 2 2] nid ⟨some (.bool true), [(13, .cells (recL fG v 60 ++ recL fS ((us.length : Int) * 1000000) 60) 4 true true Y.api_Record), (14, .cells (recL ⟨#[112, 46, 113, 46, 103, 97, 117, 103, 101, 115, 46, 103]⟩ v 60 ++ recL ⟨#[112, 46, 113, 46, 115, 101, 116, 115, 46, 115, 46, 99, 111, 117, 110, 116]⟩ ((us.length : Int) * 1000000) 60) 4 true false Y.api_Record)], [], []⟩ := fun nid =>
    sm.lend (.bool _) _ (by exact ⟨inferInstance, inferInstance, trivial⟩) (.cons (VTo.lend (List.Mem.head _) (by simp) rfl) (.cons (VTo.lend (List.Mem.tail _ (List.Mem.head _)) (by simp) rfl) .nil)) nid
  refine PureF.E (CallP.of_body (C_ok W0) B.tumblerlaw10_FlushSets rfl rfl rfl ?_)
  repeat' first
    | refine (ck).call ?_
    | refine (bg).call ?_
    | refine (CallP.of_body (C_ok W0) B.flush_Records rfl rfl rfl ?_)
    | refine (CallP.of_body (C_ok W0) B.flush_ways rfl rfl rfl ?_)
    | (apply Here.norm; (first | dsimp only [Env.putR, argEnv, pure1, newPtr, applyE, hset, List.length_cons, List.length_nil, List.length_append, List.set, List.cons_append, List.nil_append] | rfl); (first | dsimp only [Env.putR, argEnv, pure1, newPtr, applyE, hset, List.length_cons, List.length_nil, List.length_append, List.set, List.cons_append, List.nil_append] | rfl))
    | refine ⟨_, _, _, _, _, rfl, rfl, rfl, Fits.mk (by first | exact Nat.le_of_ble_eq_true rfl | (dsimp only; omega)), rfl, ?_⟩
    | refine ⟨_, _, _, _, _, rfl, _, rfl, ?_⟩
    | refine ⟨_, _, _, _, _, rfl, Fits.mk (by first | exact Nat.le_of_ble_eq_true rfl | (dsimp only; omega)), _, rfl, ?_⟩
    | refine ⟨by decide, rfl, by decide, ?_⟩
    | refine ⟨by decide, ?_⟩
    | refine ⟨_, rfl, ?_⟩
    | fail
  refine ⟨_, _, _, rfl, rfl, ?_⟩
  dsimp only [lookV, updM]
  repeat' first
    | refine ⟨by decide, ?_⟩
    | fail
  refine ⟨_, _, _, rfl, rfl, ?_⟩
  dsimp only [lookV, updM]
  repeat' first
    | refine ⟨by decide, ?_⟩
    | fail
  refine ⟨_, _, _, rfl, rfl, ?_⟩
  dsimp only [lookV, updM]
  repeat' first
    | refine ⟨by decide, ?_⟩
    | fail
  refine ⟨_, _, _, rfl, rfl, ?_⟩
  dsimp only [lookV, updM]
  repeat' first
    | refine loop_N (C_ok W0) 4 ?_
    | refine rounds_s ?_
    | (apply Here.norm; (first | dsimp only [Env.putR, argEnv, pure1, newPtr, applyE, hset, List.length_cons, List.length_nil, List.length_append, List.set, List.cons_append, List.nil_append] | rfl); (first | dsimp only [Env.putR, argEnv, pure1, newPtr, applyE, hset, List.length_cons, List.length_nil, List.length_append, List.set, List.cons_append, List.nil_append] | rfl))
    | refine ⟨_, _, _, _, _, rfl, rfl, rfl, Fits.mk (by first | exact Nat.le_of_ble_eq_true rfl | (dsimp only; omega)), rfl, ?_⟩
    | refine ⟨_, _, _, _, _, rfl, _, rfl, ?_⟩
    | refine ⟨_, _, _, _, _, rfl, Fits.mk (by first | exact Nat.le_of_ble_eq_true rfl | (dsimp only; omega)), _, rfl, ?_⟩
    | refine ⟨InB.mk (by first | decide | omega) (by first | decide | omega), ?_⟩
    | refine ⟨by decide, ?_⟩
    | fail
  refine ⟨_, _, _, rfl, rfl, ?_⟩
  dsimp only [lookV, updM]
  repeat' first
    | refine (nA).call ?_
    | refine .inl ⟨_, (itoa_4 (W0 := W0)), ?_⟩
    | (apply Here.norm; (first | dsimp only [Env.putR, argEnv, pure1, newPtr, applyE, hset, List.length_cons, List.length_nil, List.length_append, List.set, List.cons_append, List.nil_append] | rfl); (first | dsimp only [Env.putR, argEnv, pure1, newPtr, applyE, hset, List.length_cons, List.length_nil, List.length_append, List.set, List.cons_append, List.nil_append] | rfl))
    | refine ⟨_, _, _, _, _, rfl, _, rfl, ?_⟩
    | refine draw_go (C_ok W0) (by kernel_rfl) ?_
    | refine ⟨cpt_ok (by kernel_rfl), ?_⟩
    | refine ⟨by decide, ?_⟩
    | refine ⟨_, rfl, ?_⟩
    | fail
  refine ⟨_, _, _, rfl, rfl, ?_⟩
  dsimp only [lookV, updM]
  repeat' first
    | refine ⟨by decide, ?_⟩
    | fail
  refine ⟨_, _, _, rfl, rfl, ?_⟩
  dsimp only [lookV, updM]
  repeat' first
    | (apply Here.norm; (first | dsimp only [Env.putR, argEnv, pure1, newPtr, applyE, hset, List.length_cons, List.length_nil, List.length_append, List.set, List.cons_append, List.nil_append] | rfl); (first | dsimp only [Env.putR, argEnv, pure1, newPtr, applyE, hset, List.length_cons, List.length_nil, List.length_append, List.set, List.cons_append, List.nil_append] | rfl))
    | refine ⟨by decide, ?_⟩
    | fail
  refine ⟨_, _, _, rfl, (mfind_self _ _ _ _), ?_⟩
  dsimp only [lookV, updM]
  repeat' first
    | refine rounds_s ?_
    | refine .inl ⟨_, un, ?_⟩
    | refine .inr ⟨_, pe _, (by first | exact trivial | exact ⟨rfl, trivial⟩ | exact ⟨rfl, rfl, trivial⟩ | exact ⟨rfl, rfl, rfl, trivial⟩), ?_⟩
    | refine (CallP.of_body (C_ok W0) B.flush_book_set rfl rfl rfl ?_)
    | (apply Here.norm; (first | dsimp only [Env.putR, argEnv, pure1, newPtr, applyE, hset, List.length_cons, List.length_nil, List.length_append, List.set, List.cons_append, List.nil_append] | rfl); (first | dsimp only [Env.putR, argEnv, pure1, newPtr, applyE, hset, List.length_cons, List.length_nil, List.length_append, List.set, List.cons_append, List.nil_append] | rfl))
    | refine ⟨_, _, _, _, _, rfl, rfl, rfl, Fits.mk (by first | exact Nat.le_of_ble_eq_true rfl | (dsimp only; omega)), rfl, ?_⟩
    | refine ⟨_, _, _, _, _, rfl, _, rfl, ?_⟩
    | refine ⟨_, _, _, _, _, rfl, Fits.mk (by first | exact Nat.le_of_ble_eq_true rfl | (dsimp only; omega)), _, rfl, ?_⟩
    | refine draw_go (C_ok W0) (by kernel_rfl) ?_
    | refine ⟨cpt_ok (by kernel_rfl), ?_⟩
    | refine ⟨InB.mk (by first | decide | omega) (by first | decide | omega), ?_⟩
    | refine ⟨by decide, ?_⟩
    | fail
  refine ⟨_, _, _, rfl, rfl, ?_⟩
  dsimp only [lookV, updM]
  repeat' first
    | refine (nB).call ?_
    | refine .inl ⟨_, (itoa_2 (W0 := W0)), ?_⟩
    | (apply Here.norm; (first | dsimp only [Env.putR, argEnv, pure1, newPtr, applyE, hset, List.length_cons, List.length_nil, List.length_append, List.set, List.cons_append, List.nil_append] | rfl); (first | dsimp only [Env.putR, argEnv, pure1, newPtr, applyE, hset, List.length_cons, List.length_nil, List.length_append, List.set, List.cons_append, List.nil_append] | rfl))
    | refine ⟨_, _, _, _, _, rfl, _, rfl, ?_⟩
    | refine draw_go (C_ok W0) (by kernel_rfl) ?_
    | refine ⟨cpt_ok (by kernel_rfl), ?_⟩
    | refine ⟨by decide, ?_⟩
    | refine ⟨_, rfl, ?_⟩
    | fail
  refine ⟨_, _, _, rfl, k12, ?_⟩
  dsimp only [lookV, updM]
  repeat' first
    | refine ⟨by decide, ?_⟩
    | fail
  refine ⟨_, _, _, rfl, k12, ?_⟩
  dsimp only [lookV, updM]
  repeat' first
    | (apply Here.norm; (first | dsimp only [Env.putR, argEnv, pure1, newPtr, applyE, hset, List.length_cons, List.length_nil, List.length_append, List.set, List.cons_append, List.nil_append] | rfl); (first | dsimp only [Env.putR, argEnv, pure1, newPtr, applyE, hset, List.length_cons, List.length_nil, List.length_append, List.set, List.cons_append, List.nil_append] | rfl))
    | refine ⟨by decide, ?_⟩
    | fail
  refine ⟨_, _, _, rfl, k22, ?_⟩
  dsimp only [lookV, updM]
  repeat' first
    | refine rounds_s ?_
    | refine (p2 _).call (by first | exact trivial | exact ⟨rfl, trivial⟩ | exact ⟨rfl, rfl, trivial⟩ | exact ⟨rfl, rfl, rfl, trivial⟩) ?_
    | refine (so _).call (by first | exact trivial | exact ⟨rfl, trivial⟩ | exact ⟨rfl, rfl, trivial⟩ | exact ⟨rfl, rfl, rfl, trivial⟩) ?_
    | refine (CallP.of_body (C_ok W0) B.flush_book_gauge rfl rfl rfl ?_)
    | refine .inl ⟨_, wo, ?_⟩
    | refine .inr ⟨_, se _, (by first | exact trivial | exact ⟨rfl, trivial⟩ | exact ⟨rfl, rfl, trivial⟩ | exact ⟨rfl, rfl, rfl, trivial⟩), ?_⟩
    | (apply Here.norm; (first | dsimp only [Env.putR, argEnv, pure1, newPtr, applyE, hset, List.length_cons, List.length_nil, List.length_append, List.set, List.cons_append, List.nil_append] | rfl); (first | dsimp only [Env.putR, argEnv, pure1, newPtr, applyE, hset, List.length_cons, List.length_nil, List.length_append, List.set, List.cons_append, List.nil_append] | rfl))
    | refine ⟨_, _, _, _, _, rfl, _, rfl, ?_⟩
    | refine ⟨_, _, _, _, _, rfl, Fits.mk (by first | exact Nat.le_of_ble_eq_true rfl | (dsimp only; omega)), _, rfl, ?_⟩
    | refine draw_go (C_ok W0) (by kernel_rfl) ?_
    | refine ⟨cpt_ok (by kernel_rfl), ?_⟩
    | refine ⟨by decide, rfl, by decide, ?_⟩
    | refine ⟨by decide, ?_⟩
    | refine ⟨_, rfl, ?_⟩
    | fail
  rfl
end Go.Proofs.YtkocmbgpiidkdaaGreatDoor
