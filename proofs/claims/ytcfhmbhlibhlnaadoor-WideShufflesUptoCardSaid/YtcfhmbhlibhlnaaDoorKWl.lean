import Derived.Test.YtcfhmbhlibhlnaaDoorKWc
import Derived.Test.YtcfhmbhlibhlnaaDoorKWd
set_option linter.unusedVariables false
set_option linter.unusedSimpArgs false
namespace Go.Proofs.YtcfhmbhlibhlnaaDoor
open Go Go.Den
variable {W0 : World}
set_option maxRecDepth 100000 in
theorem small42 : PureF (C W0) I.i_strconv_small [.int .i64 42] (.string ⟨#[52, 50]⟩) := by
  refine PureF.E (CallP.of_body (C_ok W0) B.i_strconv_small rfl rfl rfl ?_)
  repeat' first
    | (apply Here.norm; (first | dsimp only [Env.putR, argEnv, pure1, newPtr, applyE, hset, List.length_cons, List.length_nil, List.length_append, List.set, List.cons_append, List.nil_append] | rfl); (first | dsimp only [Env.putR, argEnv, pure1, newPtr, applyE, hset, List.length_cons, List.length_nil, List.length_append, List.set, List.cons_append, List.nil_append] | rfl))
    | refine brP.t (by assumption) ?_
    | refine brP.f (by assumption) ?_
    | refine brP.tD (by assumption) ?_
    | refine brP.fD (by assumption) ?_
    | refine brP.tN (by assumption) ?_
    | refine brP.fN (by assumption) ?_
    | refine brP.introD (fun h => ?_) (fun h => ?_)
    | refine brP.introN (fun h => ?_) (fun h => ?_)
    | refine brP.intro (fun h => ?_) (fun h => ?_)
    | refine ⟨_, _, _, _, _, rfl, rfl, rfl, Fits.mk (by first | exact Nat.le_of_ble_eq_true rfl | (dsimp only; omega)), rfl, ?_⟩
    | refine ⟨_, _, _, _, _, rfl, _, rfl, ?_⟩
    | refine ⟨_, _, _, _, _, rfl, Fits.mk (by first | exact Nat.le_of_ble_eq_true rfl | (dsimp only; omega)), _, rfl, ?_⟩
    | refine ⟨Fits.mk (by first | exact Nat.le_of_ble_eq_true rfl | (dsimp only; omega)), _, rfl, ?_⟩
    | refine draw_go (C_ok W0) (by kernel_rfl) ?_
    | refine ⟨cpt_ok (by kernel_rfl), ?_⟩
    | refine ⟨InB.mk (by first | decide | omega) (by first | decide | omega), ?_⟩
    | refine ⟨SlB.mk (by first | omega | decide) (by first | omega | decide) (by first | omega | decide), ?_⟩
    | refine ⟨ShB.mk (by first | decide | omega), ?_⟩
    | refine ⟨NzB.mk (by first | decide | omega), ?_⟩
    | refine ⟨by decide, MkB.mk (by omega) (by omega) (by omega) (by omega), ?_⟩
    | refine ⟨trivial, ?_⟩
    | refine ⟨by decide, rfl, by decide, ?_⟩
    | refine .inr ⟨by decide, _, _, _, _, _, rfl, rfl, Fits.mk (by first | exact Nat.le_of_ble_eq_true rfl | omega), ?_⟩
    | refine .inr ⟨by decide, by decide, Room.mk (by decide) (by decide), ?_⟩
    | refine .inr ⟨by decide, _, _, _, _, _, rfl, rfl, Room.mk (by omega) (by omega), .inr (.inr ⟨(by omega), rfl, rfl, rfl, (by first | omega | (simp; done) | (simp; omega)), (by omega), rfl, ?_⟩)⟩
    | refine ⟨by decide, ?_⟩
    | refine ⟨subHi_le _ _ _, ?_⟩
    | refine ⟨_, rfl, ?_⟩
    | fail
  refine congrArg Value.string ?_
  kernel_rfl
theorem fmt42i : PureF (C W0) I.i_strconv_FormatUint [.int .u64 42, .int .i64 10] (.string ⟨#[52, 50]⟩) := by
  refine PureF.E (CallP.of_body (C_ok W0) B.i_strconv_FormatUint rfl rfl rfl ?_)
  repeat' first
    | refine small42.call ?_
    | (apply Here.norm; (first | dsimp only [Env.putR, argEnv, pure1, newPtr, applyE, hset, List.length_cons, List.length_nil, List.length_append, List.set, List.cons_append, List.nil_append] | rfl); (first | dsimp only [Env.putR, argEnv, pure1, newPtr, applyE, hset, List.length_cons, List.length_nil, List.length_append, List.set, List.cons_append, List.nil_append] | rfl))
    | refine brP.t (by assumption) ?_
    | refine brP.f (by assumption) ?_
    | refine brP.tD (by assumption) ?_
    | refine brP.fD (by assumption) ?_
    | refine brP.tN (by assumption) ?_
    | refine brP.fN (by assumption) ?_
    | refine brP.introD (fun h => ?_) (fun h => ?_)
    | refine brP.introN (fun h => ?_) (fun h => ?_)
    | refine brP.intro (fun h => ?_) (fun h => ?_)
    | refine ⟨_, _, _, _, _, rfl, rfl, rfl, Fits.mk (by first | exact Nat.le_of_ble_eq_true rfl | (dsimp only; omega)), rfl, ?_⟩
    | refine ⟨_, _, _, _, _, rfl, _, rfl, ?_⟩
    | refine ⟨_, _, _, _, _, rfl, Fits.mk (by first | exact Nat.le_of_ble_eq_true rfl | (dsimp only; omega)), _, rfl, ?_⟩
    | refine ⟨Fits.mk (by first | exact Nat.le_of_ble_eq_true rfl | (dsimp only; omega)), _, rfl, ?_⟩
    | refine draw_go (C_ok W0) (by kernel_rfl) ?_
    | refine ⟨cpt_ok (by kernel_rfl), ?_⟩
    | refine ⟨InB.mk (by first | decide | omega) (by first | decide | omega), ?_⟩
    | refine ⟨SlB.mk (by first | omega | decide) (by first | omega | decide) (by first | omega | decide), ?_⟩
    | refine ⟨ShB.mk (by first | decide | omega), ?_⟩
    | refine ⟨NzB.mk (by first | decide | omega), ?_⟩
    | refine ⟨by decide, MkB.mk (by omega) (by omega) (by omega) (by omega), ?_⟩
    | refine ⟨trivial, ?_⟩
    | refine ⟨by decide, rfl, by decide, ?_⟩
    | refine .inr ⟨by decide, _, _, _, _, _, rfl, rfl, Fits.mk (by first | exact Nat.le_of_ble_eq_true rfl | omega), ?_⟩
    | refine .inr ⟨by decide, by decide, Room.mk (by decide) (by decide), ?_⟩
    | refine .inr ⟨by decide, _, _, _, _, _, rfl, rfl, Room.mk (by omega) (by omega), .inr (.inr ⟨(by omega), rfl, rfl, rfl, (by first | omega | (simp; done) | (simp; omega)), (by omega), rfl, ?_⟩)⟩
    | refine ⟨by decide, ?_⟩
    | refine ⟨subHi_le _ _ _, ?_⟩
    | refine ⟨_, rfl, ?_⟩
    | fail
  rfl
theorem fmt42 : PureF (C W0) I.strconv_FormatUint [.int .u64 42, .int .i64 10] (.string ⟨#[52, 50]⟩) := by
  refine PureF.E (CallP.of_body (C_ok W0) B.strconv_FormatUint rfl rfl rfl ?_)
  repeat' first
    | refine fmt42i.call ?_
    | (apply Here.norm; (first | dsimp only [Env.putR, argEnv, pure1, newPtr, applyE, hset, List.length_cons, List.length_nil, List.length_append, List.set, List.cons_append, List.nil_append] | rfl); (first | dsimp only [Env.putR, argEnv, pure1, newPtr, applyE, hset, List.length_cons, List.length_nil, List.length_append, List.set, List.cons_append, List.nil_append] | rfl))
    | refine brP.t (by assumption) ?_
    | refine brP.f (by assumption) ?_
    | refine brP.tD (by assumption) ?_
    | refine brP.fD (by assumption) ?_
    | refine brP.tN (by assumption) ?_
    | refine brP.fN (by assumption) ?_
    | refine brP.introD (fun h => ?_) (fun h => ?_)
    | refine brP.introN (fun h => ?_) (fun h => ?_)
    | refine brP.intro (fun h => ?_) (fun h => ?_)
    | refine ⟨_, _, _, _, _, rfl, rfl, rfl, Fits.mk (by first | exact Nat.le_of_ble_eq_true rfl | (dsimp only; omega)), rfl, ?_⟩
    | refine ⟨_, _, _, _, _, rfl, _, rfl, ?_⟩
    | refine ⟨_, _, _, _, _, rfl, Fits.mk (by first | exact Nat.le_of_ble_eq_true rfl | (dsimp only; omega)), _, rfl, ?_⟩
    | refine ⟨Fits.mk (by first | exact Nat.le_of_ble_eq_true rfl | (dsimp only; omega)), _, rfl, ?_⟩
    | refine draw_go (C_ok W0) (by kernel_rfl) ?_
    | refine ⟨cpt_ok (by kernel_rfl), ?_⟩
    | refine ⟨InB.mk (by first | decide | omega) (by first | decide | omega), ?_⟩
    | refine ⟨SlB.mk (by first | omega | decide) (by first | omega | decide) (by first | omega | decide), ?_⟩
    | refine ⟨ShB.mk (by first | decide | omega), ?_⟩
    | refine ⟨NzB.mk (by first | decide | omega), ?_⟩
    | refine ⟨by decide, MkB.mk (by omega) (by omega) (by omega) (by omega), ?_⟩
    | refine ⟨trivial, ?_⟩
    | refine ⟨by decide, rfl, by decide, ?_⟩
    | refine .inr ⟨by decide, _, _, _, _, _, rfl, rfl, Fits.mk (by first | exact Nat.le_of_ble_eq_true rfl | omega), ?_⟩
    | refine .inr ⟨by decide, by decide, Room.mk (by decide) (by decide), ?_⟩
    | refine .inr ⟨by decide, _, _, _, _, _, rfl, rfl, Room.mk (by omega) (by omega), .inr (.inr ⟨(by omega), rfl, rfl, rfl, (by first | omega | (simp; done) | (simp; omega)), (by omega), rfl, ?_⟩)⟩
    | refine ⟨by decide, ?_⟩
    | refine ⟨subHi_le _ _ _, ?_⟩
    | refine ⟨_, rfl, ?_⟩
    | fail
  rfl
theorem print42 : PureF (C W0) I.wide_Print [wv (-42)] (.string ⟨#[45, 52, 50]⟩) := by
  have ha := wide_amount (W0 := W0) (-42) (by decide)
  have hd := wide_divided (W0 := W0) 42 10000000000000000000 (by decide) (by decide) (by decide) (by decide)
  refine PureF.E (CallP.of_body (C_ok W0) B.wide_Print rfl rfl rfl ?_)
  have e : mag (-42) = 42 := by decide
  rw [e] at ha
  repeat' first
    | refine ha.call ?_
    | (apply Here.norm; (first | dsimp only [Env.putR, argEnv, pure1, newPtr, applyE, hset, List.length_cons, List.length_nil, List.length_append, List.set, List.cons_append, List.nil_append] | rfl); (first | dsimp only [Env.putR, argEnv, pure1, newPtr, applyE, hset, List.length_cons, List.length_nil, List.length_append, List.set, List.cons_append, List.nil_append] | rfl))
    | refine brP.t (by assumption) ?_
    | refine brP.f (by assumption) ?_
    | refine brP.tD (by assumption) ?_
    | refine brP.fD (by assumption) ?_
    | refine brP.tN (by assumption) ?_
    | refine brP.fN (by assumption) ?_
    | refine brP.introD (fun h => ?_) (fun h => ?_)
    | refine brP.introN (fun h => ?_) (fun h => ?_)
    | refine brP.intro (fun h => ?_) (fun h => ?_)
    | refine ⟨_, _, _, _, _, rfl, rfl, rfl, Fits.mk (by first | exact Nat.le_of_ble_eq_true rfl | (dsimp only; omega)), rfl, ?_⟩
    | refine ⟨_, _, _, _, _, rfl, _, rfl, ?_⟩
    | refine ⟨_, _, _, _, _, rfl, Fits.mk (by first | exact Nat.le_of_ble_eq_true rfl | (dsimp only; omega)), _, rfl, ?_⟩
    | refine ⟨Fits.mk (by first | exact Nat.le_of_ble_eq_true rfl | (dsimp only; omega)), _, rfl, ?_⟩
    | refine draw_go (C_ok W0) (by kernel_rfl) ?_
    | refine ⟨cpt_ok (by kernel_rfl), ?_⟩
    | refine ⟨InB.mk (by first | decide | omega) (by first | decide | omega), ?_⟩
    | refine ⟨SlB.mk (by first | omega | decide) (by first | omega | decide) (by first | omega | decide), ?_⟩
    | refine ⟨ShB.mk (by first | decide | omega), ?_⟩
    | refine ⟨NzB.mk (by first | decide | omega), ?_⟩
    | refine ⟨by decide, MkB.mk (by omega) (by omega) (by omega) (by omega), ?_⟩
    | refine ⟨trivial, ?_⟩
    | refine ⟨by decide, rfl, by decide, ?_⟩
    | refine .inr ⟨by decide, _, _, _, _, _, rfl, rfl, Fits.mk (by first | exact Nat.le_of_ble_eq_true rfl | omega), ?_⟩
    | refine .inr ⟨by decide, by decide, Room.mk (by decide) (by decide), ?_⟩
    | refine .inr ⟨by decide, _, _, _, _, _, rfl, rfl, Room.mk (by omega) (by omega), .inr (.inr ⟨(by omega), rfl, rfl, rfl, (by first | omega | (simp; done) | (simp; omega)), (by omega), rfl, ?_⟩)⟩
    | refine ⟨by decide, ?_⟩
    | refine ⟨subHi_le _ _ _, ?_⟩
    | refine ⟨_, rfl, ?_⟩
    | fail
  refine loop_go (C_ok W0) (fun _ : Unit => [(1, .pointer (some ⟨0, 0, none⟩)), (2, .string ⟨#[]⟩), (3, .pointer (some ⟨1, 0, none⟩)), (4, .string ⟨#[]⟩)])
    (fun _ => [.cells (wv (-42)).cells.toList 1 true false Y.api_Wide, .cells (av 42).cells.toList 1 true false Y.wide_limbs]) (fun _ => 0) ()
    ⟨_, rfl, RT.of_eq rfl rfl⟩ ?_
  intro _
  repeat' first
    | refine hd.call ?_
    | refine fmt42.call ?_
    | (apply Here.norm; (first | dsimp only [Env.putR, argEnv, pure1, newPtr, applyE, hset, List.length_cons, List.length_nil, List.length_append, List.set, List.cons_append, List.nil_append] | rfl); (first | dsimp only [Env.putR, argEnv, pure1, newPtr, applyE, hset, List.length_cons, List.length_nil, List.length_append, List.set, List.cons_append, List.nil_append] | rfl))
    | refine brP.t (by assumption) ?_
    | refine brP.f (by assumption) ?_
    | refine brP.tD (by assumption) ?_
    | refine brP.fD (by assumption) ?_
    | refine brP.tN (by assumption) ?_
    | refine brP.fN (by assumption) ?_
    | refine brP.introD (fun h => ?_) (fun h => ?_)
    | refine brP.introN (fun h => ?_) (fun h => ?_)
    | refine brP.intro (fun h => ?_) (fun h => ?_)
    | refine ⟨_, _, _, _, _, rfl, rfl, rfl, Fits.mk (by first | exact Nat.le_of_ble_eq_true rfl | (dsimp only; omega)), rfl, ?_⟩
    | refine ⟨_, _, _, _, _, rfl, _, rfl, ?_⟩
    | refine ⟨_, _, _, _, _, rfl, Fits.mk (by first | exact Nat.le_of_ble_eq_true rfl | (dsimp only; omega)), _, rfl, ?_⟩
    | refine ⟨Fits.mk (by first | exact Nat.le_of_ble_eq_true rfl | (dsimp only; omega)), _, rfl, ?_⟩
    | refine draw_go (C_ok W0) (by kernel_rfl) ?_
    | refine ⟨cpt_ok (by kernel_rfl), ?_⟩
    | refine ⟨InB.mk (by first | decide | omega) (by first | decide | omega), ?_⟩
    | refine ⟨SlB.mk (by first | omega | decide) (by first | omega | decide) (by first | omega | decide), ?_⟩
    | refine ⟨ShB.mk (by first | decide | omega), ?_⟩
    | refine ⟨NzB.mk (by first | decide | omega), ?_⟩
    | refine ⟨by decide, MkB.mk (by omega) (by omega) (by omega) (by omega), ?_⟩
    | refine ⟨trivial, ?_⟩
    | refine ⟨by decide, rfl, by decide, ?_⟩
    | refine .inr ⟨by decide, _, _, _, _, _, rfl, rfl, Fits.mk (by first | exact Nat.le_of_ble_eq_true rfl | omega), ?_⟩
    | refine .inr ⟨by decide, by decide, Room.mk (by decide) (by decide), ?_⟩
    | refine .inr ⟨by decide, _, _, _, _, _, rfl, rfl, Room.mk (by omega) (by omega), .inr (.inr ⟨(by omega), rfl, rfl, rfl, (by first | omega | (simp; done) | (simp; omega)), (by omega), rfl, ?_⟩)⟩
    | refine ⟨by decide, ?_⟩
    | refine ⟨subHi_le _ _ _, ?_⟩
    | refine ⟨_, rfl, ?_⟩
    | fail
  refine congrArg Value.string ?_
  kernel_rfl
theorem alive : PureF (C W0) I.tumblerlaw01_alive [] (.bool true) := by
  have h1 := wide_Of (W0 := W0) (-7) (by decide)
  have h2 := wide_Of (W0 := W0) 6 (by decide)
  have h3 := wide_Mul (W0 := W0) (-7) 6 (by decide) (by decide)
  have h4 := wide_Sign (W0 := W0) (-42) (by decide)
  have e : wev (-7 * 6) = .tuple #[wv (-42), .int .i64 0] := by rw [wev, wenc_in (by decide)]; rfl
  rw [e] at h3
  have e4 : wcmp (-42) 0 = -1 := by decide
  rw [e4] at h4
  refine PureF.E (CallP.of_body (C_ok W0) B.tumblerlaw01_alive rfl rfl rfl ?_)
  repeat' first
    | refine h1.call ?_
    | refine h2.call ?_
    | refine h3.call ?_
    | refine print42.call ?_
    | refine h4.call ?_
    | (apply Here.norm; (first | dsimp only [Env.putR, argEnv, pure1, newPtr, applyE, hset, List.length_cons, List.length_nil, List.length_append, List.set, List.cons_append, List.nil_append] | rfl); (first | dsimp only [Env.putR, argEnv, pure1, newPtr, applyE, hset, List.length_cons, List.length_nil, List.length_append, List.set, List.cons_append, List.nil_append] | rfl))
    | refine brP.t (by assumption) ?_
    | refine brP.f (by assumption) ?_
    | refine brP.tD (by assumption) ?_
    | refine brP.fD (by assumption) ?_
    | refine brP.tN (by assumption) ?_
    | refine brP.fN (by assumption) ?_
    | refine brP.introD (fun h => ?_) (fun h => ?_)
    | refine brP.introN (fun h => ?_) (fun h => ?_)
    | refine brP.intro (fun h => ?_) (fun h => ?_)
    | refine ⟨_, _, _, _, _, rfl, rfl, rfl, Fits.mk (by first | exact Nat.le_of_ble_eq_true rfl | (dsimp only; omega)), rfl, ?_⟩
    | refine ⟨_, _, _, _, _, rfl, _, rfl, ?_⟩
    | refine ⟨_, _, _, _, _, rfl, Fits.mk (by first | exact Nat.le_of_ble_eq_true rfl | (dsimp only; omega)), _, rfl, ?_⟩
    | refine ⟨Fits.mk (by first | exact Nat.le_of_ble_eq_true rfl | (dsimp only; omega)), _, rfl, ?_⟩
    | refine draw_go (C_ok W0) (by kernel_rfl) ?_
    | refine ⟨cpt_ok (by kernel_rfl), ?_⟩
    | refine ⟨InB.mk (by first | decide | omega) (by first | decide | omega), ?_⟩
    | refine ⟨SlB.mk (by first | omega | decide) (by first | omega | decide) (by first | omega | decide), ?_⟩
    | refine ⟨ShB.mk (by first | decide | omega), ?_⟩
    | refine ⟨NzB.mk (by first | decide | omega), ?_⟩
    | refine ⟨by decide, MkB.mk (by omega) (by omega) (by omega) (by omega), ?_⟩
    | refine ⟨trivial, ?_⟩
    | refine ⟨by decide, rfl, by decide, ?_⟩
    | refine .inr ⟨by decide, _, _, _, _, _, rfl, rfl, Fits.mk (by first | exact Nat.le_of_ble_eq_true rfl | omega), ?_⟩
    | refine .inr ⟨by decide, by decide, Room.mk (by decide) (by decide), ?_⟩
    | refine .inr ⟨by decide, _, _, _, _, _, rfl, rfl, Room.mk (by omega) (by omega), .inr (.inr ⟨(by omega), rfl, rfl, rfl, (by first | omega | (simp; done) | (simp; omega)), (by omega), rfl, ?_⟩)⟩
    | refine ⟨by decide, ?_⟩
    | refine ⟨subHi_le _ _ _, ?_⟩
    | refine ⟨_, rfl, ?_⟩
    | fail
  rfl
end Go.Proofs.YtcfhmbhlibhlnaaDoor
