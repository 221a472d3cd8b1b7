import Derived.Test.YtioahngbfdfcaaaDoorKLj
set_option linter.unusedVariables false
set_option linter.unusedSimpArgs false
namespace Go.Proofs.YtioahngbfdfcaaaDoor
open Go Go.Den Go.RowKit
variable {W0 : World}
/-! LineOrder -/
theorem bare_58 {s : List UInt8} (h : bareB s = true) : (58 : UInt8) ∉ s := (of_decide_eq_true h).1
theorem bare_124 {s : List UInt8} (h : bareB s = true) : (124 : UInt8) ∉ s := (of_decide_eq_true h).2
theorem let_124 (k : Int) : (124 : UInt8) ∉ letK k := by unfold letK; split <;> (try split) <;> (try split) <;> decide
theorem let_len (k : Int) : (letK k).length ≤ 2 := by unfold letK; split <;> (try split) <;> (try split) <;> decide
theorem base_len (b : Bt) : (baseL b).length = b.name.length + b.value.length + (letK b.kind).length + 2 := by unfold baseL; simp; omega
theorem parse_at (hW : WF W0) (x : ByteArray) (l : List UInt8) (h : x = bs l) (hl : l.length ≤ 1048576) : PureF (C W0) I.line_Parse [.string x] (.tuple #[evV (parseL l).1, .int .i64 (parseL l).2.1, .int .i64 (parseL l).2.2]) := by
  subst h; exact line_Parse hW l hl
attribute [local irreducible] parseL cutA bareB textL baseL letK
set_option maxRecDepth 20000 in
set_option maxHeartbeats 16000000 in
theorem lineOrder (hW : WF W0) (nm va : List UInt8) (kd : Int) (rt tm : List UInt8) (h0 : nm.length ≤ 1048576) (h1 : va.length ≤ 1048576) (h2 : -9223372036854775808 ≤ kd ∧ kd ≤ 9223372036854775807) (h3 : rt.length ≤ 1048576) (h4 : tm.length ≤ 1048576) :
    PureF (C W0) I.tumblerlaw04_LineOrder [.agg #[.string (bs nm), .string (bs va), .int .i64 kd, .string (bs rt), .string (bs tm)]] (.bool true) := by
  have aw := awake hW
  have s0 := bs_size nm
  have s1 := bs_size va
  have s3 := bs_size rt
  have s4 := bs_size tm
  have p1 := law_bare (W0 := W0) nm h0
  have p2 := law_bare (W0 := W0) rt h3
  have p3 := law_bare (W0 := W0) tm h4
  have px := law_text (W0 := W0) ⟨nm, va, kd, rt, tm⟩ ⟨h0, h1, h2, h3, h4⟩ false false
  have ex : textL ⟨nm, va, kd, rt, tm⟩ false false = baseL ⟨nm, va, kd, rt, tm⟩ := by unfold textL; simp
  rw [ex] at px
  have w1 : IntKind.i64.wrap ((((bs nm).size : Nat) : Int) + (((bs va).size : Nat) : Int)) = ((nm.length + va.length : Nat) : Int) := by rw [wrap_in (by omega)]; omega
  have w2 : IntKind.i64.wrap (2 * (((bs rt).size : Nat) : Int)) = ((2 * rt.length : Nat) : Int) := by rw [wrap_in (by omega)]; omega
  have w3 : IntKind.i64.wrap (2 * (((bs tm).size : Nat) : Int)) = ((2 * tm.length : Nat) : Int) := by rw [wrap_in (by omega)]; omega
  have w4 : IntKind.i64.wrap (IntKind.i64.wrap ((((bs nm).size : Nat) : Int) + (((bs va).size : Nat) : Int)) + IntKind.i64.wrap (2 * (((bs rt).size : Nat) : Int))) = ((nm.length + va.length + 2 * rt.length : Nat) : Int) := by rw [w1, w2, wrap_in (by omega)]; omega
  have w5 : IntKind.i64.wrap (IntKind.i64.wrap (IntKind.i64.wrap ((((bs nm).size : Nat) : Int) + (((bs va).size : Nat) : Int)) + IntKind.i64.wrap (2 * (((bs rt).size : Nat) : Int))) + IntKind.i64.wrap (2 * (((bs tm).size : Nat) : Int))) = ((nm.length + va.length + 2 * rt.length + 2 * tm.length : Nat) : Int) := by rw [w4, w3, wrap_in (by omega)]; omega
  refine PureF.E (CallP.of_body (C_ok W0) B.tumblerlaw04_LineOrder rfl rfl rfl ?_)
  by_cases b1 : bareB nm = true
  · rw [b1] at p1
    by_cases b2 : bareB rt = true
    · rw [b2] at p2
      by_cases b3 : bareB tm = true
      · rw [b3] at p3
        by_cases hl : nm.length + va.length + 2 * rt.length + 2 * tm.length ≤ 900
        · have bl := base_len ⟨nm, va, kd, rt, tm⟩
          have ll := let_len kd
          dsimp only at bl
          have or := order_is (n := nm) (v := va) (kd := letK kd) (bare_58 b1) (let_124 kd) (bare_124 b2) (bare_124 b3) (baseL ⟨nm, va, kd, rt, tm⟩) (by unfold baseL; rfl)
          generalize baseL ⟨nm, va, kd, rt, tm⟩ = s at *
          have pp := parse_at hW (bs s) s rfl (by omega)
          by_cases c0 : (parseL s).2.2 = 0
          · obtain ⟨o1, o2, o3⟩ := or c0 (by omega)
            have l1 : (⟨#[124]⟩ : ByteArray) = bs [124] := rfl
            have l2 : (⟨#[124, 64]⟩ : ByteArray) = bs [124, 64] := rfl
            have l3 : (⟨#[124, 84]⟩ : ByteArray) = bs [124, 84] := rfl
            have z1 : (⟨#[124]⟩ : ByteArray).size = 1 := rfl
            have z2 : (⟨#[124, 64]⟩ : ByteArray).size = 2 := rfl
            have z3 : (⟨#[124, 84]⟩ : ByteArray).size = 2 := rfl
            have q1 := parse_at hW (bs s ++ ⟨#[124]⟩) (s ++ [124]) (by rw [l1, bs_app]) (by simp; omega)
            have qt := parse_at hW (bs s ++ ⟨#[124, 84]⟩ ++ bs tm) (s ++ 124 :: 84 :: tm) (by rw [l3, bs_app, bs_app]; simp) (by simp; omega)
            have qtt := parse_at hW (bs s ++ ⟨#[124, 84]⟩ ++ bs tm ++ ⟨#[124, 84]⟩ ++ bs tm) ((s ++ 124 :: 84 :: tm) ++ 124 :: 84 :: tm) (by simp only [l3, bs_app]; simp) (by simp; omega)
            have qtr := parse_at hW (bs s ++ ⟨#[124, 84]⟩ ++ bs tm ++ ⟨#[124, 64]⟩ ++ bs rt) ((s ++ 124 :: 84 :: tm) ++ 124 :: 64 :: rt) (by simp only [l3, l2, bs_app]; simp) (by simp; omega)
            have qr := parse_at hW (bs s ++ ⟨#[124, 64]⟩ ++ bs rt) (s ++ 124 :: 64 :: rt) (by rw [l2, bs_app, bs_app]; simp) (by simp; omega)
            have qrr := parse_at hW (bs s ++ ⟨#[124, 64]⟩ ++ bs rt ++ ⟨#[124, 64]⟩ ++ bs rt) ((s ++ 124 :: 64 :: rt) ++ 124 :: 64 :: rt) (by simp only [l2, bs_app]; simp) (by simp; omega)
            rw [o1] at q1
            have sz := bs_size s
            have st : (bs s ++ ⟨#[124, 84]⟩ ++ bs tm).size = (s ++ 124 :: 84 :: tm).length := by simp only [ByteArray.size_append, z3]; simp; omega
            have sr : (bs s ++ ⟨#[124, 64]⟩ ++ bs rt).size = (s ++ 124 :: 64 :: rt).length := by simp only [ByteArray.size_append, z2]; simp; omega
            have lt : (s ++ 124 :: 84 :: tm).length = s.length + tm.length + 2 := by simp; omega
            have lr : (s ++ 124 :: 64 :: rt).length = s.length + rt.length + 2 := by simp; omega
            have v1 : IntKind.i64.wrap ((((bs s).size : Nat) : Int) + 1) = ((s.length + 1 : Nat) : Int) := by rw [wrap_in (by omega)]; omega
            have v2 : IntKind.i64.wrap ((((bs s ++ ⟨#[124, 84]⟩ ++ bs tm).size : Nat) : Int) + 1) = (((s ++ 124 :: 84 :: tm).length + 1 : Nat) : Int) := by rw [wrap_in (by omega)]; omega
            have v3 : IntKind.i64.wrap ((((bs s ++ ⟨#[124, 64]⟩ ++ bs rt).size : Nat) : Int) + 1) = (((s ++ 124 :: 64 :: rt).length + 1 : Nat) : Int) := by rw [wrap_in (by omega)]; omega
            by_cases c1 : (parseL (s ++ 124 :: 84 :: tm)).2.2 = 0
            · obtain ⟨o4, o5⟩ := o2 c1
              rw [o4] at qtt
              rw [o5] at qtr
              rw [c1] at qt
              by_cases c2 : (parseL (s ++ 124 :: 64 :: rt)).2.2 = 0
              · have o6 := o3 c2
                rw [o6] at qrr
                rw [c2] at qr
                repeat' first
                  | refine brP.tD (by omega) ?_
                  | refine brP.fD (by omega) ?_
                  | refine brP.tN (by omega) ?_
                  | refine brP.fN (by omega) ?_
                  | refine (aw).call ?_
                  | refine .inl ⟨_, aw, ?_⟩
                  | refine (p1).call ?_
                  | refine .inl ⟨_, p1, ?_⟩
                  | refine (p2).call ?_
                  | refine .inl ⟨_, p2, ?_⟩
                  | refine (p3).call ?_
                  | refine .inl ⟨_, p3, ?_⟩
                  | refine (px).call ?_
                  | refine .inl ⟨_, px, ?_⟩
                  | refine (pp).call ?_
                  | refine .inl ⟨_, pp, ?_⟩
                  | refine (q1).call ?_
                  | refine .inl ⟨_, q1, ?_⟩
                  | refine (qt).call ?_
                  | refine .inl ⟨_, qt, ?_⟩
                  | refine (qtt).call ?_
                  | refine .inl ⟨_, qtt, ?_⟩
                  | refine (qtr).call ?_
                  | refine .inl ⟨_, qtr, ?_⟩
                  | refine (qr).call ?_
                  | refine .inl ⟨_, qr, ?_⟩
                  | refine (qrr).call ?_
                  | refine .inl ⟨_, qrr, ?_⟩
                  | refine ⟨by (try simp only [ByteArray.size_append]); omega, ?_⟩
                  | (apply Here.norm; (first | dsimp only [Env.putR, argEnv, pure1, newPtr, applyE, hset, List.length_cons, List.length_nil, List.length_append, List.set, List.cons_append, List.nil_append] | rfl); (first | dsimp only [Env.putR, argEnv, pure1, newPtr, applyE, hset, List.length_cons, List.length_nil, List.length_append, List.set, List.cons_append, List.nil_append] | rfl))
                  | refine brP.t (by assumption) ?_
                  | refine brP.f (by assumption) ?_
                  | refine brP.tD (by assumption) ?_
                  | refine brP.fD (by assumption) ?_
                  | refine brP.tN (by assumption) ?_
                  | refine brP.fN (by assumption) ?_
                  | refine brP.introD (fun h => ?_) (fun h => ?_)
                  | refine brP.introN (fun h => ?_) (fun h => ?_)
                  | refine brP.intro (fun h => ?_) (fun h => ?_)
                  | refine ⟨_, _, _, _, _, rfl, rfl, rfl, Fits.mk (by first | exact Nat.le_of_ble_eq_true rfl | (dsimp only; omega)), rfl, ?_⟩
                  | refine ⟨_, _, _, _, _, rfl, _, rfl, ?_⟩
                  | refine ⟨_, _, _, _, _, rfl, Fits.mk (by first | exact Nat.le_of_ble_eq_true rfl | (dsimp only; omega)), _, rfl, ?_⟩
                  | refine ⟨Fits.mk (by first | exact Nat.le_of_ble_eq_true rfl | (dsimp only; omega)), _, rfl, ?_⟩
                  | refine draw_go (C_ok W0) (by kernel_rfl) ?_
                  | refine ⟨cpt_ok (by kernel_rfl), ?_⟩
                  | refine ⟨InB.mk (by first | decide | omega) (by first | decide | omega), ?_⟩
                  | refine ⟨SlB.mk (by first | omega | decide) (by first | omega | decide) (by first | omega | decide), ?_⟩
                  | refine ⟨ShB.mk (by first | decide | omega), ?_⟩
                  | refine ⟨NzB.mk (by first | decide | omega), ?_⟩
                  | refine ⟨by decide, MkB.mk (by omega) (by omega) (by omega) (by omega), ?_⟩
                  | refine ⟨trivial, ?_⟩
                  | refine ⟨by decide, rfl, by decide, ?_⟩
                  | refine .inr ⟨by decide, _, _, _, _, _, rfl, rfl, Fits.mk (by first | exact Nat.le_of_ble_eq_true rfl | omega), ?_⟩
                  | refine .inr ⟨by decide, by decide, Room.mk (by decide) (by decide), ?_⟩
                  | refine .inr ⟨by decide, _, _, _, _, _, rfl, rfl, Room.mk (by omega) (by omega), .inr (.inr ⟨(by omega), rfl, rfl, rfl, (by first | omega | (simp; done) | (simp; omega)), (by omega), rfl, ?_⟩)⟩
                  | refine ⟨by decide, ?_⟩
                  | refine ⟨subHi_le _ _ _, ?_⟩
                  | refine ⟨_, rfl, ?_⟩
                  | fail
                exact congrArg Value.bool (decide_eq_true v3.symm)
              ·
                repeat' first
                  | refine brP.tD (by omega) ?_
                  | refine brP.fD (by omega) ?_
                  | refine brP.tN (by omega) ?_
                  | refine brP.fN (by omega) ?_
                  | refine (aw).call ?_
                  | refine .inl ⟨_, aw, ?_⟩
                  | refine (p1).call ?_
                  | refine .inl ⟨_, p1, ?_⟩
                  | refine (p2).call ?_
                  | refine .inl ⟨_, p2, ?_⟩
                  | refine (p3).call ?_
                  | refine .inl ⟨_, p3, ?_⟩
                  | refine (px).call ?_
                  | refine .inl ⟨_, px, ?_⟩
                  | refine (pp).call ?_
                  | refine .inl ⟨_, pp, ?_⟩
                  | refine (q1).call ?_
                  | refine .inl ⟨_, q1, ?_⟩
                  | refine (qt).call ?_
                  | refine .inl ⟨_, qt, ?_⟩
                  | refine (qtt).call ?_
                  | refine .inl ⟨_, qtt, ?_⟩
                  | refine (qtr).call ?_
                  | refine .inl ⟨_, qtr, ?_⟩
                  | refine (qr).call ?_
                  | refine .inl ⟨_, qr, ?_⟩
                  | refine ⟨by (try simp only [ByteArray.size_append]); omega, ?_⟩
                  | (apply Here.norm; (first | dsimp only [Env.putR, argEnv, pure1, newPtr, applyE, hset, List.length_cons, List.length_nil, List.length_append, List.set, List.cons_append, List.nil_append] | rfl); (first | dsimp only [Env.putR, argEnv, pure1, newPtr, applyE, hset, List.length_cons, List.length_nil, List.length_append, List.set, List.cons_append, List.nil_append] | rfl))
                  | refine brP.t (by assumption) ?_
                  | refine brP.f (by assumption) ?_
                  | refine brP.tD (by assumption) ?_
                  | refine brP.fD (by assumption) ?_
                  | refine brP.tN (by assumption) ?_
                  | refine brP.fN (by assumption) ?_
                  | refine brP.introD (fun h => ?_) (fun h => ?_)
                  | refine brP.introN (fun h => ?_) (fun h => ?_)
                  | refine brP.intro (fun h => ?_) (fun h => ?_)
                  | refine ⟨_, _, _, _, _, rfl, rfl, rfl, Fits.mk (by first | exact Nat.le_of_ble_eq_true rfl | (dsimp only; omega)), rfl, ?_⟩
                  | refine ⟨_, _, _, _, _, rfl, _, rfl, ?_⟩
                  | refine ⟨_, _, _, _, _, rfl, Fits.mk (by first | exact Nat.le_of_ble_eq_true rfl | (dsimp only; omega)), _, rfl, ?_⟩
                  | refine ⟨Fits.mk (by first | exact Nat.le_of_ble_eq_true rfl | (dsimp only; omega)), _, rfl, ?_⟩
                  | refine draw_go (C_ok W0) (by kernel_rfl) ?_
                  | refine ⟨cpt_ok (by kernel_rfl), ?_⟩
                  | refine ⟨InB.mk (by first | decide | omega) (by first | decide | omega), ?_⟩
                  | refine ⟨SlB.mk (by first | omega | decide) (by first | omega | decide) (by first | omega | decide), ?_⟩
                  | refine ⟨ShB.mk (by first | decide | omega), ?_⟩
                  | refine ⟨NzB.mk (by first | decide | omega), ?_⟩
                  | refine ⟨by decide, MkB.mk (by omega) (by omega) (by omega) (by omega), ?_⟩
                  | refine ⟨trivial, ?_⟩
                  | refine ⟨by decide, rfl, by decide, ?_⟩
                  | refine .inr ⟨by decide, _, _, _, _, _, rfl, rfl, Fits.mk (by first | exact Nat.le_of_ble_eq_true rfl | omega), ?_⟩
                  | refine .inr ⟨by decide, by decide, Room.mk (by decide) (by decide), ?_⟩
                  | refine .inr ⟨by decide, _, _, _, _, _, rfl, rfl, Room.mk (by omega) (by omega), .inr (.inr ⟨(by omega), rfl, rfl, rfl, (by first | omega | (simp; done) | (simp; omega)), (by omega), rfl, ?_⟩)⟩
                  | refine ⟨by decide, ?_⟩
                  | refine ⟨subHi_le _ _ _, ?_⟩
                  | refine ⟨_, rfl, ?_⟩
                  | fail
                rfl
            · by_cases c2 : (parseL (s ++ 124 :: 64 :: rt)).2.2 = 0
              · have o6 := o3 c2
                rw [o6] at qrr
                rw [c2] at qr
                repeat' first
                  | refine brP.tD (by omega) ?_
                  | refine brP.fD (by omega) ?_
                  | refine brP.tN (by omega) ?_
                  | refine brP.fN (by omega) ?_
                  | refine (aw).call ?_
                  | refine .inl ⟨_, aw, ?_⟩
                  | refine (p1).call ?_
                  | refine .inl ⟨_, p1, ?_⟩
                  | refine (p2).call ?_
                  | refine .inl ⟨_, p2, ?_⟩
                  | refine (p3).call ?_
                  | refine .inl ⟨_, p3, ?_⟩
                  | refine (px).call ?_
                  | refine .inl ⟨_, px, ?_⟩
                  | refine (pp).call ?_
                  | refine .inl ⟨_, pp, ?_⟩
                  | refine (q1).call ?_
                  | refine .inl ⟨_, q1, ?_⟩
                  | refine (qt).call ?_
                  | refine .inl ⟨_, qt, ?_⟩
                  | refine (qr).call ?_
                  | refine .inl ⟨_, qr, ?_⟩
                  | refine (qrr).call ?_
                  | refine .inl ⟨_, qrr, ?_⟩
                  | refine ⟨by (try simp only [ByteArray.size_append]); omega, ?_⟩
                  | (apply Here.norm; (first | dsimp only [Env.putR, argEnv, pure1, newPtr, applyE, hset, List.length_cons, List.length_nil, List.length_append, List.set, List.cons_append, List.nil_append] | rfl); (first | dsimp only [Env.putR, argEnv, pure1, newPtr, applyE, hset, List.length_cons, List.length_nil, List.length_append, List.set, List.cons_append, List.nil_append] | rfl))
                  | refine brP.t (by assumption) ?_
                  | refine brP.f (by assumption) ?_
                  | refine brP.tD (by assumption) ?_
                  | refine brP.fD (by assumption) ?_
                  | refine brP.tN (by assumption) ?_
                  | refine brP.fN (by assumption) ?_
                  | refine brP.introD (fun h => ?_) (fun h => ?_)
                  | refine brP.introN (fun h => ?_) (fun h => ?_)
                  | refine brP.intro (fun h => ?_) (fun h => ?_)
                  | refine ⟨_, _, _, _, _, rfl, rfl, rfl, Fits.mk (by first | exact Nat.le_of_ble_eq_true rfl | (dsimp only; omega)), rfl, ?_⟩
                  | refine ⟨_, _, _, _, _, rfl, _, rfl, ?_⟩
                  | refine ⟨_, _, _, _, _, rfl, Fits.mk (by first | exact Nat.le_of_ble_eq_true rfl | (dsimp only; omega)), _, rfl, ?_⟩
                  | refine ⟨Fits.mk (by first | exact Nat.le_of_ble_eq_true rfl | (dsimp only; omega)), _, rfl, ?_⟩
                  | refine draw_go (C_ok W0) (by kernel_rfl) ?_
                  | refine ⟨cpt_ok (by kernel_rfl), ?_⟩
                  | refine ⟨InB.mk (by first | decide | omega) (by first | decide | omega), ?_⟩
                  | refine ⟨SlB.mk (by first | omega | decide) (by first | omega | decide) (by first | omega | decide), ?_⟩
                  | refine ⟨ShB.mk (by first | decide | omega), ?_⟩
                  | refine ⟨NzB.mk (by first | decide | omega), ?_⟩
                  | refine ⟨by decide, MkB.mk (by omega) (by omega) (by omega) (by omega), ?_⟩
                  | refine ⟨trivial, ?_⟩
                  | refine ⟨by decide, rfl, by decide, ?_⟩
                  | refine .inr ⟨by decide, _, _, _, _, _, rfl, rfl, Fits.mk (by first | exact Nat.le_of_ble_eq_true rfl | omega), ?_⟩
                  | refine .inr ⟨by decide, by decide, Room.mk (by decide) (by decide), ?_⟩
                  | refine .inr ⟨by decide, _, _, _, _, _, rfl, rfl, Room.mk (by omega) (by omega), .inr (.inr ⟨(by omega), rfl, rfl, rfl, (by first | omega | (simp; done) | (simp; omega)), (by omega), rfl, ?_⟩)⟩
                  | refine ⟨by decide, ?_⟩
                  | refine ⟨subHi_le _ _ _, ?_⟩
                  | refine ⟨_, rfl, ?_⟩
                  | fail
                exact congrArg Value.bool (decide_eq_true v3.symm)
              ·
                repeat' first
                  | refine brP.tD (by omega) ?_
                  | refine brP.fD (by omega) ?_
                  | refine brP.tN (by omega) ?_
                  | refine brP.fN (by omega) ?_
                  | refine (aw).call ?_
                  | refine .inl ⟨_, aw, ?_⟩
                  | refine (p1).call ?_
                  | refine .inl ⟨_, p1, ?_⟩
                  | refine (p2).call ?_
                  | refine .inl ⟨_, p2, ?_⟩
                  | refine (p3).call ?_
                  | refine .inl ⟨_, p3, ?_⟩
                  | refine (px).call ?_
                  | refine .inl ⟨_, px, ?_⟩
                  | refine (pp).call ?_
                  | refine .inl ⟨_, pp, ?_⟩
                  | refine (q1).call ?_
                  | refine .inl ⟨_, q1, ?_⟩
                  | refine (qt).call ?_
                  | refine .inl ⟨_, qt, ?_⟩
                  | refine (qr).call ?_
                  | refine .inl ⟨_, qr, ?_⟩
                  | refine ⟨by (try simp only [ByteArray.size_append]); omega, ?_⟩
                  | (apply Here.norm; (first | dsimp only [Env.putR, argEnv, pure1, newPtr, applyE, hset, List.length_cons, List.length_nil, List.length_append, List.set, List.cons_append, List.nil_append] | rfl); (first | dsimp only [Env.putR, argEnv, pure1, newPtr, applyE, hset, List.length_cons, List.length_nil, List.length_append, List.set, List.cons_append, List.nil_append] | rfl))
                  | refine brP.t (by assumption) ?_
                  | refine brP.f (by assumption) ?_
                  | refine brP.tD (by assumption) ?_
                  | refine brP.fD (by assumption) ?_
                  | refine brP.tN (by assumption) ?_
                  | refine brP.fN (by assumption) ?_
                  | refine brP.introD (fun h => ?_) (fun h => ?_)
                  | refine brP.introN (fun h => ?_) (fun h => ?_)
                  | refine brP.intro (fun h => ?_) (fun h => ?_)
                  | refine ⟨_, _, _, _, _, rfl, rfl, rfl, Fits.mk (by first | exact Nat.le_of_ble_eq_true rfl | (dsimp only; omega)), rfl, ?_⟩
                  | refine ⟨_, _, _, _, _, rfl, _, rfl, ?_⟩
                  | refine ⟨_, _, _, _, _, rfl, Fits.mk (by first | exact Nat.le_of_ble_eq_true rfl | (dsimp only; omega)), _, rfl, ?_⟩
                  | refine ⟨Fits.mk (by first | exact Nat.le_of_ble_eq_true rfl | (dsimp only; omega)), _, rfl, ?_⟩
                  | refine draw_go (C_ok W0) (by kernel_rfl) ?_
                  | refine ⟨cpt_ok (by kernel_rfl), ?_⟩
                  | refine ⟨InB.mk (by first | decide | omega) (by first | decide | omega), ?_⟩
                  | refine ⟨SlB.mk (by first | omega | decide) (by first | omega | decide) (by first | omega | decide), ?_⟩
                  | refine ⟨ShB.mk (by first | decide | omega), ?_⟩
                  | refine ⟨NzB.mk (by first | decide | omega), ?_⟩
                  | refine ⟨by decide, MkB.mk (by omega) (by omega) (by omega) (by omega), ?_⟩
                  | refine ⟨trivial, ?_⟩
                  | refine ⟨by decide, rfl, by decide, ?_⟩
                  | refine .inr ⟨by decide, _, _, _, _, _, rfl, rfl, Fits.mk (by first | exact Nat.le_of_ble_eq_true rfl | omega), ?_⟩
                  | refine .inr ⟨by decide, by decide, Room.mk (by decide) (by decide), ?_⟩
                  | refine .inr ⟨by decide, _, _, _, _, _, rfl, rfl, Room.mk (by omega) (by omega), .inr (.inr ⟨(by omega), rfl, rfl, rfl, (by first | omega | (simp; done) | (simp; omega)), (by omega), rfl, ?_⟩)⟩
                  | refine ⟨by decide, ?_⟩
                  | refine ⟨subHi_le _ _ _, ?_⟩
                  | refine ⟨_, rfl, ?_⟩
                  | fail
                rfl
          ·
            repeat' first
              | refine brP.tD (by omega) ?_
              | refine brP.fD (by omega) ?_
              | refine brP.tN (by omega) ?_
              | refine brP.fN (by omega) ?_
              | refine (aw).call ?_
              | refine .inl ⟨_, aw, ?_⟩
              | refine (p1).call ?_
              | refine .inl ⟨_, p1, ?_⟩
              | refine (p2).call ?_
              | refine .inl ⟨_, p2, ?_⟩
              | refine (p3).call ?_
              | refine .inl ⟨_, p3, ?_⟩
              | refine (px).call ?_
              | refine .inl ⟨_, px, ?_⟩
              | refine (pp).call ?_
              | refine .inl ⟨_, pp, ?_⟩
              | (apply Here.norm; (first | dsimp only [Env.putR, argEnv, pure1, newPtr, applyE, hset, List.length_cons, List.length_nil, List.length_append, List.set, List.cons_append, List.nil_append] | rfl); (first | dsimp only [Env.putR, argEnv, pure1, newPtr, applyE, hset, List.length_cons, List.length_nil, List.length_append, List.set, List.cons_append, List.nil_append] | rfl))
              | refine brP.t (by assumption) ?_
              | refine brP.f (by assumption) ?_
              | refine brP.tD (by assumption) ?_
              | refine brP.fD (by assumption) ?_
              | refine brP.tN (by assumption) ?_
              | refine brP.fN (by assumption) ?_
              | refine brP.introD (fun h => ?_) (fun h => ?_)
              | refine brP.introN (fun h => ?_) (fun h => ?_)
              | refine brP.intro (fun h => ?_) (fun h => ?_)
              | refine ⟨_, _, _, _, _, rfl, rfl, rfl, Fits.mk (by first | exact Nat.le_of_ble_eq_true rfl | (dsimp only; omega)), rfl, ?_⟩
              | refine ⟨_, _, _, _, _, rfl, _, rfl, ?_⟩
              | refine ⟨_, _, _, _, _, rfl, Fits.mk (by first | exact Nat.le_of_ble_eq_true rfl | (dsimp only; omega)), _, rfl, ?_⟩
              | refine ⟨Fits.mk (by first | exact Nat.le_of_ble_eq_true rfl | (dsimp only; omega)), _, rfl, ?_⟩
              | refine draw_go (C_ok W0) (by kernel_rfl) ?_
              | refine ⟨cpt_ok (by kernel_rfl), ?_⟩
              | refine ⟨InB.mk (by first | decide | omega) (by first | decide | omega), ?_⟩
              | refine ⟨SlB.mk (by first | omega | decide) (by first | omega | decide) (by first | omega | decide), ?_⟩
              | refine ⟨ShB.mk (by first | decide | omega), ?_⟩
              | refine ⟨NzB.mk (by first | decide | omega), ?_⟩
              | refine ⟨by decide, MkB.mk (by omega) (by omega) (by omega) (by omega), ?_⟩
              | refine ⟨trivial, ?_⟩
              | refine ⟨by decide, rfl, by decide, ?_⟩
              | refine .inr ⟨by decide, _, _, _, _, _, rfl, rfl, Fits.mk (by first | exact Nat.le_of_ble_eq_true rfl | omega), ?_⟩
              | refine .inr ⟨by decide, by decide, Room.mk (by decide) (by decide), ?_⟩
              | refine .inr ⟨by decide, _, _, _, _, _, rfl, rfl, Room.mk (by omega) (by omega), .inr (.inr ⟨(by omega), rfl, rfl, rfl, (by first | omega | (simp; done) | (simp; omega)), (by omega), rfl, ?_⟩)⟩
              | refine ⟨by decide, ?_⟩
              | refine ⟨subHi_le _ _ _, ?_⟩
              | refine ⟨_, rfl, ?_⟩
              | fail
            rfl
        ·
          repeat' first
            | refine brP.tD (by omega) ?_
            | refine brP.fD (by omega) ?_
            | refine brP.tN (by omega) ?_
            | refine brP.fN (by omega) ?_
            | refine (aw).call ?_
            | refine .inl ⟨_, aw, ?_⟩
            | refine (p1).call ?_
            | refine .inl ⟨_, p1, ?_⟩
            | refine (p2).call ?_
            | refine .inl ⟨_, p2, ?_⟩
            | refine (p3).call ?_
            | refine .inl ⟨_, p3, ?_⟩
            | (apply Here.norm; (first | dsimp only [Env.putR, argEnv, pure1, newPtr, applyE, hset, List.length_cons, List.length_nil, List.length_append, List.set, List.cons_append, List.nil_append] | rfl); (first | dsimp only [Env.putR, argEnv, pure1, newPtr, applyE, hset, List.length_cons, List.length_nil, List.length_append, List.set, List.cons_append, List.nil_append] | rfl))
            | refine brP.t (by assumption) ?_
            | refine brP.f (by assumption) ?_
            | refine brP.tD (by assumption) ?_
            | refine brP.fD (by assumption) ?_
            | refine brP.tN (by assumption) ?_
            | refine brP.fN (by assumption) ?_
            | refine brP.introD (fun h => ?_) (fun h => ?_)
            | refine brP.introN (fun h => ?_) (fun h => ?_)
            | refine brP.intro (fun h => ?_) (fun h => ?_)
            | refine ⟨_, _, _, _, _, rfl, rfl, rfl, Fits.mk (by first | exact Nat.le_of_ble_eq_true rfl | (dsimp only; omega)), rfl, ?_⟩
            | refine ⟨_, _, _, _, _, rfl, _, rfl, ?_⟩
            | refine ⟨_, _, _, _, _, rfl, Fits.mk (by first | exact Nat.le_of_ble_eq_true rfl | (dsimp only; omega)), _, rfl, ?_⟩
            | refine ⟨Fits.mk (by first | exact Nat.le_of_ble_eq_true rfl | (dsimp only; omega)), _, rfl, ?_⟩
            | refine draw_go (C_ok W0) (by kernel_rfl) ?_
            | refine ⟨cpt_ok (by kernel_rfl), ?_⟩
            | refine ⟨InB.mk (by first | decide | omega) (by first | decide | omega), ?_⟩
            | refine ⟨SlB.mk (by first | omega | decide) (by first | omega | decide) (by first | omega | decide), ?_⟩
            | refine ⟨ShB.mk (by first | decide | omega), ?_⟩
            | refine ⟨NzB.mk (by first | decide | omega), ?_⟩
            | refine ⟨by decide, MkB.mk (by omega) (by omega) (by omega) (by omega), ?_⟩
            | refine ⟨trivial, ?_⟩
            | refine ⟨by decide, rfl, by decide, ?_⟩
            | refine .inr ⟨by decide, _, _, _, _, _, rfl, rfl, Fits.mk (by first | exact Nat.le_of_ble_eq_true rfl | omega), ?_⟩
            | refine .inr ⟨by decide, by decide, Room.mk (by decide) (by decide), ?_⟩
            | refine .inr ⟨by decide, _, _, _, _, _, rfl, rfl, Room.mk (by omega) (by omega), .inr (.inr ⟨(by omega), rfl, rfl, rfl, (by first | omega | (simp; done) | (simp; omega)), (by omega), rfl, ?_⟩)⟩
            | refine ⟨by decide, ?_⟩
            | refine ⟨subHi_le _ _ _, ?_⟩
            | refine ⟨_, rfl, ?_⟩
            | fail
          rfl
      · rw [show bareB tm = false by simpa using b3] at p3
        repeat' first
          | refine brP.tD (by omega) ?_
          | refine brP.fD (by omega) ?_
          | refine brP.tN (by omega) ?_
          | refine brP.fN (by omega) ?_
          | refine (aw).call ?_
          | refine .inl ⟨_, aw, ?_⟩
          | refine (p1).call ?_
          | refine .inl ⟨_, p1, ?_⟩
          | refine (p2).call ?_
          | refine .inl ⟨_, p2, ?_⟩
          | refine (p3).call ?_
          | refine .inl ⟨_, p3, ?_⟩
          | (apply Here.norm; (first | dsimp only [Env.putR, argEnv, pure1, newPtr, applyE, hset, List.length_cons, List.length_nil, List.length_append, List.set, List.cons_append, List.nil_append] | rfl); (first | dsimp only [Env.putR, argEnv, pure1, newPtr, applyE, hset, List.length_cons, List.length_nil, List.length_append, List.set, List.cons_append, List.nil_append] | rfl))
          | refine brP.t (by assumption) ?_
          | refine brP.f (by assumption) ?_
          | refine brP.tD (by assumption) ?_
          | refine brP.fD (by assumption) ?_
          | refine brP.tN (by assumption) ?_
          | refine brP.fN (by assumption) ?_
          | refine brP.introD (fun h => ?_) (fun h => ?_)
          | refine brP.introN (fun h => ?_) (fun h => ?_)
          | refine brP.intro (fun h => ?_) (fun h => ?_)
          | refine ⟨_, _, _, _, _, rfl, rfl, rfl, Fits.mk (by first | exact Nat.le_of_ble_eq_true rfl | (dsimp only; omega)), rfl, ?_⟩
          | refine ⟨_, _, _, _, _, rfl, _, rfl, ?_⟩
          | refine ⟨_, _, _, _, _, rfl, Fits.mk (by first | exact Nat.le_of_ble_eq_true rfl | (dsimp only; omega)), _, rfl, ?_⟩
          | refine ⟨Fits.mk (by first | exact Nat.le_of_ble_eq_true rfl | (dsimp only; omega)), _, rfl, ?_⟩
          | refine draw_go (C_ok W0) (by kernel_rfl) ?_
          | refine ⟨cpt_ok (by kernel_rfl), ?_⟩
          | refine ⟨InB.mk (by first | decide | omega) (by first | decide | omega), ?_⟩
          | refine ⟨SlB.mk (by first | omega | decide) (by first | omega | decide) (by first | omega | decide), ?_⟩
          | refine ⟨ShB.mk (by first | decide | omega), ?_⟩
          | refine ⟨NzB.mk (by first | decide | omega), ?_⟩
          | refine ⟨by decide, MkB.mk (by omega) (by omega) (by omega) (by omega), ?_⟩
          | refine ⟨trivial, ?_⟩
          | refine ⟨by decide, rfl, by decide, ?_⟩
          | refine .inr ⟨by decide, _, _, _, _, _, rfl, rfl, Fits.mk (by first | exact Nat.le_of_ble_eq_true rfl | omega), ?_⟩
          | refine .inr ⟨by decide, by decide, Room.mk (by decide) (by decide), ?_⟩
          | refine .inr ⟨by decide, _, _, _, _, _, rfl, rfl, Room.mk (by omega) (by omega), .inr (.inr ⟨(by omega), rfl, rfl, rfl, (by first | omega | (simp; done) | (simp; omega)), (by omega), rfl, ?_⟩)⟩
          | refine ⟨by decide, ?_⟩
          | refine ⟨subHi_le _ _ _, ?_⟩
          | refine ⟨_, rfl, ?_⟩
          | fail
        rfl
    · rw [show bareB rt = false by simpa using b2] at p2
      repeat' first
        | refine brP.tD (by omega) ?_
        | refine brP.fD (by omega) ?_
        | refine brP.tN (by omega) ?_
        | refine brP.fN (by omega) ?_
        | refine (aw).call ?_
        | refine .inl ⟨_, aw, ?_⟩
        | refine (p1).call ?_
        | refine .inl ⟨_, p1, ?_⟩
        | refine (p2).call ?_
        | refine .inl ⟨_, p2, ?_⟩
        | (apply Here.norm; (first | dsimp only [Env.putR, argEnv, pure1, newPtr, applyE, hset, List.length_cons, List.length_nil, List.length_append, List.set, List.cons_append, List.nil_append] | rfl); (first | dsimp only [Env.putR, argEnv, pure1, newPtr, applyE, hset, List.length_cons, List.length_nil, List.length_append, List.set, List.cons_append, List.nil_append] | rfl))
        | refine brP.t (by assumption) ?_
        | refine brP.f (by assumption) ?_
        | refine brP.tD (by assumption) ?_
        | refine brP.fD (by assumption) ?_
        | refine brP.tN (by assumption) ?_
        | refine brP.fN (by assumption) ?_
        | refine brP.introD (fun h => ?_) (fun h => ?_)
        | refine brP.introN (fun h => ?_) (fun h => ?_)
        | refine brP.intro (fun h => ?_) (fun h => ?_)
        | refine ⟨_, _, _, _, _, rfl, rfl, rfl, Fits.mk (by first | exact Nat.le_of_ble_eq_true rfl | (dsimp only; omega)), rfl, ?_⟩
        | refine ⟨_, _, _, _, _, rfl, _, rfl, ?_⟩
        | refine ⟨_, _, _, _, _, rfl, Fits.mk (by first | exact Nat.le_of_ble_eq_true rfl | (dsimp only; omega)), _, rfl, ?_⟩
        | refine ⟨Fits.mk (by first | exact Nat.le_of_ble_eq_true rfl | (dsimp only; omega)), _, rfl, ?_⟩
        | refine draw_go (C_ok W0) (by kernel_rfl) ?_
        | refine ⟨cpt_ok (by kernel_rfl), ?_⟩
        | refine ⟨InB.mk (by first | decide | omega) (by first | decide | omega), ?_⟩
        | refine ⟨SlB.mk (by first | omega | decide) (by first | omega | decide) (by first | omega | decide), ?_⟩
        | refine ⟨ShB.mk (by first | decide | omega), ?_⟩
        | refine ⟨NzB.mk (by first | decide | omega), ?_⟩
        | refine ⟨by decide, MkB.mk (by omega) (by omega) (by omega) (by omega), ?_⟩
        | refine ⟨trivial, ?_⟩
        | refine ⟨by decide, rfl, by decide, ?_⟩
        | refine .inr ⟨by decide, _, _, _, _, _, rfl, rfl, Fits.mk (by first | exact Nat.le_of_ble_eq_true rfl | omega), ?_⟩
        | refine .inr ⟨by decide, by decide, Room.mk (by decide) (by decide), ?_⟩
        | refine .inr ⟨by decide, _, _, _, _, _, rfl, rfl, Room.mk (by omega) (by omega), .inr (.inr ⟨(by omega), rfl, rfl, rfl, (by first | omega | (simp; done) | (simp; omega)), (by omega), rfl, ?_⟩)⟩
        | refine ⟨by decide, ?_⟩
        | refine ⟨subHi_le _ _ _, ?_⟩
        | refine ⟨_, rfl, ?_⟩
        | fail
      rfl
  · rw [show bareB nm = false by simpa using b1] at p1
    repeat' first
      | refine brP.tD (by omega) ?_
      | refine brP.fD (by omega) ?_
      | refine brP.tN (by omega) ?_
      | refine brP.fN (by omega) ?_
      | refine (aw).call ?_
      | refine .inl ⟨_, aw, ?_⟩
      | refine (p1).call ?_
      | refine .inl ⟨_, p1, ?_⟩
      | (apply Here.norm; (first | dsimp only [Env.putR, argEnv, pure1, newPtr, applyE, hset, List.length_cons, List.length_nil, List.length_append, List.set, List.cons_append, List.nil_append] | rfl); (first | dsimp only [Env.putR, argEnv, pure1, newPtr, applyE, hset, List.length_cons, List.length_nil, List.length_append, List.set, List.cons_append, List.nil_append] | rfl))
      | refine brP.t (by assumption) ?_
      | refine brP.f (by assumption) ?_
      | refine brP.tD (by assumption) ?_
      | refine brP.fD (by assumption) ?_
      | refine brP.tN (by assumption) ?_
      | refine brP.fN (by assumption) ?_
      | refine brP.introD (fun h => ?_) (fun h => ?_)
      | refine brP.introN (fun h => ?_) (fun h => ?_)
      | refine brP.intro (fun h => ?_) (fun h => ?_)
      | refine ⟨_, _, _, _, _, rfl, rfl, rfl, Fits.mk (by first | exact Nat.le_of_ble_eq_true rfl | (dsimp only; omega)), rfl, ?_⟩
      | refine ⟨_, _, _, _, _, rfl, _, rfl, ?_⟩
      | refine ⟨_, _, _, _, _, rfl, Fits.mk (by first | exact Nat.le_of_ble_eq_true rfl | (dsimp only; omega)), _, rfl, ?_⟩
      | refine ⟨Fits.mk (by first | exact Nat.le_of_ble_eq_true rfl | (dsimp only; omega)), _, rfl, ?_⟩
      | refine draw_go (C_ok W0) (by kernel_rfl) ?_
      | refine ⟨cpt_ok (by kernel_rfl), ?_⟩
      | refine ⟨InB.mk (by first | decide | omega) (by first | decide | omega), ?_⟩
      | refine ⟨SlB.mk (by first | omega | decide) (by first | omega | decide) (by first | omega | decide), ?_⟩
      | refine ⟨ShB.mk (by first | decide | omega), ?_⟩
      | refine ⟨NzB.mk (by first | decide | omega), ?_⟩
      | refine ⟨by decide, MkB.mk (by omega) (by omega) (by omega) (by omega), ?_⟩
      | refine ⟨trivial, ?_⟩
      | refine ⟨by decide, rfl, by decide, ?_⟩
      | refine .inr ⟨by decide, _, _, _, _, _, rfl, rfl, Fits.mk (by first | exact Nat.le_of_ble_eq_true rfl | omega), ?_⟩
      | refine .inr ⟨by decide, by decide, Room.mk (by decide) (by decide), ?_⟩
      | refine .inr ⟨by decide, _, _, _, _, _, rfl, rfl, Room.mk (by omega) (by omega), .inr (.inr ⟨(by omega), rfl, rfl, rfl, (by first | omega | (simp; done) | (simp; omega)), (by omega), rfl, ?_⟩)⟩
      | refine ⟨by decide, ?_⟩
      | refine ⟨subHi_le _ _ _, ?_⟩
      | refine ⟨_, rfl, ?_⟩
      | fail
    rfl
end Go.Proofs.YtioahngbfdfcaaaDoor
