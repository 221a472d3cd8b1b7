import Derived.Test.YtioahngbfdfcaaaGreatDoorKLv
set_option linter.unusedVariables false
set_option linter.unusedSimpArgs false
namespace Go.Proofs.YtioahngbfdfcaaaGreatDoor
open Go Go.Den Go.RowKit
variable {W0 : World}
/-! line.Print -/
abbrev prV (e : Ev) : Value := .tuple #[.string (bs (if checkV e = 0 then printV e else [])), .int .i64 (checkV e)]
attribute [local irreducible] okName fitsV memL showW checkV
set_option maxRecDepth 20000 in
set_option maxHeartbeats 8000000 in
theorem line_Print (hW : WF W0) (hT : Tens W0) (e : Ev) (hn : e.name.length ≤ 1048576) (hm : e.member.length ≤ 1048576) : PureF (C W0) I.line_Print [evV e] (prV e) := by
  have ck := line_Check (W0 := W0) hW e hn hm
  have le := line_letters (W0 := W0) e.kind
  refine PureF.E (CallP.of_body (C_ok W0) B.line_Print rfl rfl rfl ?_)
  unfold prV
  by_cases h : checkV e = 0
  · have m := (check_iff e).mp h
    rw [if_pos h]
    rw [h] at ck ⊢
    have mv := micro_Print (W0 := W0) hT e.value (by have := m.value; unfold Hi; omega)
    have mr := micro_Print (W0 := W0) hT e.rate (by have := m.rate; unfold Hi; omega)
    have ft : e.timed = true → PureF (C W0) I.strconv_FormatInt [.int .i64 e.time, .int .i64 10] (.string (bs (Lib.itoa e.time))) := fun z => FormatInt hT e.time (by have := m.time z; omega)
    have il : e.timed = true → (Lib.itoa e.time).length ≤ 20 := fun z => itoa_len (m.time z).1 (m.time z).2
    have nl := okName_len m.name
    have vl := show_len e.value (by have := m.value; omega)
    have rl := show_len e.rate (by have := m.rate; omega)
    have ml : e.member.length ≤ 100 := by
      by_cases k4 : e.kind = 4
      · exact (mem_bar (m.set k4).2).2
      · rw [m.member k4]; decide
    have ll := (let_E e.kind).2
    have dk := m.delta
    clear m h
    obtain ⟨nm, k, v, d, mb, r, t, x⟩ := e
    dsimp only at *
    unfold printV rateT timeT valT
    dsimp only
    generalize letE k = L at *
    generalize Lib.itoa x = X at *
    have s1 := bs_size nm
    have s2 := bs_size (showW v)
    have s3 := bs_size (showW r)
    have s4 := bs_size mb
    have s5 := bs_size L
    have s6 := bs_size X
    generalize showW v = V at *
    generalize showW r = Q at *
    have zc : (⟨#[58]⟩ : ByteArray).size = 1 := rfl
    have zb : (⟨#[124]⟩ : ByteArray).size = 1 := rfl
    have zp : (⟨#[43]⟩ : ByteArray).size = 1 := rfl
    have zr : (⟨#[124, 64]⟩ : ByteArray).size = 2 := rfl
    have zt : (⟨#[124, 84]⟩ : ByteArray).size = 2 := rfl
    have lc : (⟨#[58]⟩ : ByteArray) = bs [58] := rfl
    have lb : (⟨#[124]⟩ : ByteArray) = bs [124] := rfl
    have lp : (⟨#[43]⟩ : ByteArray) = bs [43] := rfl
    have lr : (⟨#[124, 64]⟩ : ByteArray) = bs [124, 64] := rfl
    have lt : (⟨#[124, 84]⟩ : ByteArray) = bs [124, 84] := rfl
    by_cases k4 : k = 4
    · rw [if_pos k4]
      by_cases r0 : r = 1000000
      · rw [if_pos r0]
        cases t with
        | true =>
          have ft := ft rfl
          have il := il rfl
          rw [if_pos rfl]
          repeat' first
            | refine brP.fN (by omega) ?_
            | refine (ck).call ?_
            | refine .inl ⟨_, le, ?_⟩
            | refine (ft).call ?_
            | refine ⟨by (try simp only [ByteArray.size_append]); omega, ?_⟩
            | (apply Here.norm; (first | dsimp only [Env.putR, argEnv, pure1, newPtr, applyE, hset, List.length_cons, List.length_nil, List.length_append, List.set, List.cons_append, List.nil_append] | rfl); (first | dsimp only [Env.putR, argEnv, pure1, newPtr, applyE, hset, List.length_cons, List.length_nil, List.length_append, List.set, List.cons_append, List.nil_append] | rfl))
            | refine ⟨_, _, _, _, _, rfl, _, rfl, ?_⟩
            | refine ⟨_, _, _, _, _, rfl, Fits.mk (by first | exact Nat.le_of_ble_eq_true rfl | (dsimp only; omega)), _, rfl, ?_⟩
            | refine draw_go (C_ok W0) (by kernel_rfl) ?_
            | refine ⟨cpt_ok (by kernel_rfl), ?_⟩
            | refine ⟨by decide, ?_⟩
            | fail
          refine congrArg (fun z => Value.tuple #[.string z, .int .i64 0]) ?_
          simp only [lc, lb, lp, lr, lt, bs_app, barJ_cons, barJ_nil, List.append_assoc, List.cons_append, List.nil_append, List.append_nil]
        | false =>
          rw [if_neg (by simp)]
          repeat' first
            | refine brP.fN (by omega) ?_
            | refine (ck).call ?_
            | refine .inl ⟨_, le, ?_⟩
            | refine ⟨by (try simp only [ByteArray.size_append]); omega, ?_⟩
            | (apply Here.norm; (first | dsimp only [Env.putR, argEnv, pure1, newPtr, applyE, hset, List.length_cons, List.length_nil, List.length_append, List.set, List.cons_append, List.nil_append] | rfl); (first | dsimp only [Env.putR, argEnv, pure1, newPtr, applyE, hset, List.length_cons, List.length_nil, List.length_append, List.set, List.cons_append, List.nil_append] | rfl))
            | refine ⟨_, _, _, _, _, rfl, _, rfl, ?_⟩
            | refine ⟨_, _, _, _, _, rfl, Fits.mk (by first | exact Nat.le_of_ble_eq_true rfl | (dsimp only; omega)), _, rfl, ?_⟩
            | refine draw_go (C_ok W0) (by kernel_rfl) ?_
            | refine ⟨cpt_ok (by kernel_rfl), ?_⟩
            | refine ⟨by decide, ?_⟩
            | fail
          refine congrArg (fun z => Value.tuple #[.string z, .int .i64 0]) ?_
          simp only [lc, lb, lp, lr, lt, bs_app, barJ_cons, barJ_nil, List.append_assoc, List.cons_append, List.nil_append, List.append_nil]
      · rw [if_neg r0]
        cases t with
        | true =>
          have ft := ft rfl
          have il := il rfl
          rw [if_pos rfl]
          repeat' first
            | refine brP.tN (by omega) ?_
            | refine brP.fN (by omega) ?_
            | refine (ck).call ?_
            | refine .inl ⟨_, le, ?_⟩
            | refine (mr).call ?_
            | refine (ft).call ?_
            | refine ⟨by (try simp only [ByteArray.size_append]); omega, ?_⟩
            | (apply Here.norm; (first | dsimp only [Env.putR, argEnv, pure1, newPtr, applyE, hset, List.length_cons, List.length_nil, List.length_append, List.set, List.cons_append, List.nil_append] | rfl); (first | dsimp only [Env.putR, argEnv, pure1, newPtr, applyE, hset, List.length_cons, List.length_nil, List.length_append, List.set, List.cons_append, List.nil_append] | rfl))
            | refine ⟨_, _, _, _, _, rfl, _, rfl, ?_⟩
            | refine ⟨_, _, _, _, _, rfl, Fits.mk (by first | exact Nat.le_of_ble_eq_true rfl | (dsimp only; omega)), _, rfl, ?_⟩
            | refine draw_go (C_ok W0) (by kernel_rfl) ?_
            | refine ⟨cpt_ok (by kernel_rfl), ?_⟩
            | refine ⟨by decide, ?_⟩
            | fail
          refine congrArg (fun z => Value.tuple #[.string z, .int .i64 0]) ?_
          simp only [lc, lb, lp, lr, lt, bs_app, barJ_cons, barJ_nil, List.append_assoc, List.cons_append, List.nil_append, List.append_nil]
        | false =>
          rw [if_neg (by simp)]
          repeat' first
            | refine brP.tN (by omega) ?_
            | refine brP.fN (by omega) ?_
            | refine (ck).call ?_
            | refine .inl ⟨_, le, ?_⟩
            | refine (mr).call ?_
            | refine ⟨by (try simp only [ByteArray.size_append]); omega, ?_⟩
            | (apply Here.norm; (first | dsimp only [Env.putR, argEnv, pure1, newPtr, applyE, hset, List.length_cons, List.length_nil, List.length_append, List.set, List.cons_append, List.nil_append] | rfl); (first | dsimp only [Env.putR, argEnv, pure1, newPtr, applyE, hset, List.length_cons, List.length_nil, List.length_append, List.set, List.cons_append, List.nil_append] | rfl))
            | refine ⟨_, _, _, _, _, rfl, _, rfl, ?_⟩
            | refine ⟨_, _, _, _, _, rfl, Fits.mk (by first | exact Nat.le_of_ble_eq_true rfl | (dsimp only; omega)), _, rfl, ?_⟩
            | refine draw_go (C_ok W0) (by kernel_rfl) ?_
            | refine ⟨cpt_ok (by kernel_rfl), ?_⟩
            | refine ⟨by decide, ?_⟩
            | fail
          refine congrArg (fun z => Value.tuple #[.string z, .int .i64 0]) ?_
          simp only [lc, lb, lp, lr, lt, bs_app, barJ_cons, barJ_nil, List.append_assoc, List.cons_append, List.nil_append, List.append_nil]
    · rw [if_neg k4]
      cases d with
      | true =>
        by_cases v0 : 0 ≤ v
        · rw [if_pos ⟨rfl, v0⟩]
          by_cases r0 : r = 1000000
          · rw [if_pos r0]
            cases t with
            | true =>
              have ft := ft rfl
              have il := il rfl
              rw [if_pos rfl]
              repeat' first
                | refine brP.tD (by omega) ?_
                | refine brP.tN (by omega) ?_
                | refine brP.fN (by omega) ?_
                | refine (ck).call ?_
                | refine .inl ⟨_, le, ?_⟩
                | refine (mv).call ?_
                | refine (ft).call ?_
                | refine ⟨by (try simp only [ByteArray.size_append]); omega, ?_⟩
                | (apply Here.norm; (first | dsimp only [Env.putR, argEnv, pure1, newPtr, applyE, hset, List.length_cons, List.length_nil, List.length_append, List.set, List.cons_append, List.nil_append] | rfl); (first | dsimp only [Env.putR, argEnv, pure1, newPtr, applyE, hset, List.length_cons, List.length_nil, List.length_append, List.set, List.cons_append, List.nil_append] | rfl))
                | refine ⟨_, _, _, _, _, rfl, _, rfl, ?_⟩
                | refine ⟨_, _, _, _, _, rfl, Fits.mk (by first | exact Nat.le_of_ble_eq_true rfl | (dsimp only; omega)), _, rfl, ?_⟩
                | refine draw_go (C_ok W0) (by kernel_rfl) ?_
                | refine ⟨cpt_ok (by kernel_rfl), ?_⟩
                | refine ⟨by decide, ?_⟩
                | fail
              refine congrArg (fun z => Value.tuple #[.string z, .int .i64 0]) ?_
              simp only [lc, lb, lp, lr, lt, bs_app, barJ_cons, barJ_nil, List.append_assoc, List.cons_append, List.nil_append, List.append_nil]
            | false =>
              rw [if_neg (by simp)]
              repeat' first
                | refine brP.tD (by omega) ?_
                | refine brP.tN (by omega) ?_
                | refine brP.fN (by omega) ?_
                | refine (ck).call ?_
                | refine .inl ⟨_, le, ?_⟩
                | refine (mv).call ?_
                | refine ⟨by (try simp only [ByteArray.size_append]); omega, ?_⟩
                | (apply Here.norm; (first | dsimp only [Env.putR, argEnv, pure1, newPtr, applyE, hset, List.length_cons, List.length_nil, List.length_append, List.set, List.cons_append, List.nil_append] | rfl); (first | dsimp only [Env.putR, argEnv, pure1, newPtr, applyE, hset, List.length_cons, List.length_nil, List.length_append, List.set, List.cons_append, List.nil_append] | rfl))
                | refine ⟨_, _, _, _, _, rfl, _, rfl, ?_⟩
                | refine ⟨_, _, _, _, _, rfl, Fits.mk (by first | exact Nat.le_of_ble_eq_true rfl | (dsimp only; omega)), _, rfl, ?_⟩
                | refine draw_go (C_ok W0) (by kernel_rfl) ?_
                | refine ⟨cpt_ok (by kernel_rfl), ?_⟩
                | refine ⟨by decide, ?_⟩
                | fail
              refine congrArg (fun z => Value.tuple #[.string z, .int .i64 0]) ?_
              simp only [lc, lb, lp, lr, lt, bs_app, barJ_cons, barJ_nil, List.append_assoc, List.cons_append, List.nil_append, List.append_nil]
          · rw [if_neg r0]
            cases t with
            | true =>
              have ft := ft rfl
              have il := il rfl
              rw [if_pos rfl]
              repeat' first
                | refine brP.tD (by omega) ?_
                | refine brP.tN (by omega) ?_
                | refine (ck).call ?_
                | refine .inl ⟨_, le, ?_⟩
                | refine (mv).call ?_
                | refine (mr).call ?_
                | refine (ft).call ?_
                | refine ⟨by (try simp only [ByteArray.size_append]); omega, ?_⟩
                | (apply Here.norm; (first | dsimp only [Env.putR, argEnv, pure1, newPtr, applyE, hset, List.length_cons, List.length_nil, List.length_append, List.set, List.cons_append, List.nil_append] | rfl); (first | dsimp only [Env.putR, argEnv, pure1, newPtr, applyE, hset, List.length_cons, List.length_nil, List.length_append, List.set, List.cons_append, List.nil_append] | rfl))
                | refine ⟨_, _, _, _, _, rfl, _, rfl, ?_⟩
                | refine ⟨_, _, _, _, _, rfl, Fits.mk (by first | exact Nat.le_of_ble_eq_true rfl | (dsimp only; omega)), _, rfl, ?_⟩
                | refine draw_go (C_ok W0) (by kernel_rfl) ?_
                | refine ⟨cpt_ok (by kernel_rfl), ?_⟩
                | refine ⟨by decide, ?_⟩
                | fail
              refine congrArg (fun z => Value.tuple #[.string z, .int .i64 0]) ?_
              simp only [lc, lb, lp, lr, lt, bs_app, barJ_cons, barJ_nil, List.append_assoc, List.cons_append, List.nil_append, List.append_nil]
            | false =>
              rw [if_neg (by simp)]
              repeat' first
                | refine brP.tD (by omega) ?_
                | refine brP.tN (by omega) ?_
                | refine (ck).call ?_
                | refine .inl ⟨_, le, ?_⟩
                | refine (mv).call ?_
                | refine (mr).call ?_
                | refine ⟨by (try simp only [ByteArray.size_append]); omega, ?_⟩
                | (apply Here.norm; (first | dsimp only [Env.putR, argEnv, pure1, newPtr, applyE, hset, List.length_cons, List.length_nil, List.length_append, List.set, List.cons_append, List.nil_append] | rfl); (first | dsimp only [Env.putR, argEnv, pure1, newPtr, applyE, hset, List.length_cons, List.length_nil, List.length_append, List.set, List.cons_append, List.nil_append] | rfl))
                | refine ⟨_, _, _, _, _, rfl, _, rfl, ?_⟩
                | refine ⟨_, _, _, _, _, rfl, Fits.mk (by first | exact Nat.le_of_ble_eq_true rfl | (dsimp only; omega)), _, rfl, ?_⟩
                | refine draw_go (C_ok W0) (by kernel_rfl) ?_
                | refine ⟨cpt_ok (by kernel_rfl), ?_⟩
                | refine ⟨by decide, ?_⟩
                | fail
              refine congrArg (fun z => Value.tuple #[.string z, .int .i64 0]) ?_
              simp only [lc, lb, lp, lr, lt, bs_app, barJ_cons, barJ_nil, List.append_assoc, List.cons_append, List.nil_append, List.append_nil]
        · rw [if_neg (fun z => v0 z.2)]
          by_cases r0 : r = 1000000
          · rw [if_pos r0]
            cases t with
            | true =>
              have ft := ft rfl
              have il := il rfl
              rw [if_pos rfl]
              repeat' first
                | refine brP.fD (by omega) ?_
                | refine brP.tN (by omega) ?_
                | refine brP.fN (by omega) ?_
                | refine (ck).call ?_
                | refine .inl ⟨_, le, ?_⟩
                | refine (mv).call ?_
                | refine (ft).call ?_
                | refine ⟨by (try simp only [ByteArray.size_append]); omega, ?_⟩
                | (apply Here.norm; (first | dsimp only [Env.putR, argEnv, pure1, newPtr, applyE, hset, List.length_cons, List.length_nil, List.length_append, List.set, List.cons_append, List.nil_append] | rfl); (first | dsimp only [Env.putR, argEnv, pure1, newPtr, applyE, hset, List.length_cons, List.length_nil, List.length_append, List.set, List.cons_append, List.nil_append] | rfl))
                | refine ⟨_, _, _, _, _, rfl, _, rfl, ?_⟩
                | refine ⟨_, _, _, _, _, rfl, Fits.mk (by first | exact Nat.le_of_ble_eq_true rfl | (dsimp only; omega)), _, rfl, ?_⟩
                | refine draw_go (C_ok W0) (by kernel_rfl) ?_
                | refine ⟨cpt_ok (by kernel_rfl), ?_⟩
                | refine ⟨by decide, ?_⟩
                | fail
              refine congrArg (fun z => Value.tuple #[.string z, .int .i64 0]) ?_
              simp only [lc, lb, lp, lr, lt, bs_app, barJ_cons, barJ_nil, List.append_assoc, List.cons_append, List.nil_append, List.append_nil]
            | false =>
              rw [if_neg (by simp)]
              repeat' first
                | refine brP.fD (by omega) ?_
                | refine brP.tN (by omega) ?_
                | refine brP.fN (by omega) ?_
                | refine (ck).call ?_
                | refine .inl ⟨_, le, ?_⟩
                | refine (mv).call ?_
                | refine ⟨by (try simp only [ByteArray.size_append]); omega, ?_⟩
                | (apply Here.norm; (first | dsimp only [Env.putR, argEnv, pure1, newPtr, applyE, hset, List.length_cons, List.length_nil, List.length_append, List.set, List.cons_append, List.nil_append] | rfl); (first | dsimp only [Env.putR, argEnv, pure1, newPtr, applyE, hset, List.length_cons, List.length_nil, List.length_append, List.set, List.cons_append, List.nil_append] | rfl))
                | refine ⟨_, _, _, _, _, rfl, _, rfl, ?_⟩
                | refine ⟨_, _, _, _, _, rfl, Fits.mk (by first | exact Nat.le_of_ble_eq_true rfl | (dsimp only; omega)), _, rfl, ?_⟩
                | refine draw_go (C_ok W0) (by kernel_rfl) ?_
                | refine ⟨cpt_ok (by kernel_rfl), ?_⟩
                | refine ⟨by decide, ?_⟩
                | fail
              refine congrArg (fun z => Value.tuple #[.string z, .int .i64 0]) ?_
              simp only [lc, lb, lp, lr, lt, bs_app, barJ_cons, barJ_nil, List.append_assoc, List.cons_append, List.nil_append, List.append_nil]
          · rw [if_neg r0]
            cases t with
            | true =>
              have ft := ft rfl
              have il := il rfl
              rw [if_pos rfl]
              repeat' first
                | refine brP.fD (by omega) ?_
                | refine brP.tN (by omega) ?_
                | refine (ck).call ?_
                | refine .inl ⟨_, le, ?_⟩
                | refine (mv).call ?_
                | refine (mr).call ?_
                | refine (ft).call ?_
                | refine ⟨by (try simp only [ByteArray.size_append]); omega, ?_⟩
                | (apply Here.norm; (first | dsimp only [Env.putR, argEnv, pure1, newPtr, applyE, hset, List.length_cons, List.length_nil, List.length_append, List.set, List.cons_append, List.nil_append] | rfl); (first | dsimp only [Env.putR, argEnv, pure1, newPtr, applyE, hset, List.length_cons, List.length_nil, List.length_append, List.set, List.cons_append, List.nil_append] | rfl))
                | refine ⟨_, _, _, _, _, rfl, _, rfl, ?_⟩
                | refine ⟨_, _, _, _, _, rfl, Fits.mk (by first | exact Nat.le_of_ble_eq_true rfl | (dsimp only; omega)), _, rfl, ?_⟩
                | refine draw_go (C_ok W0) (by kernel_rfl) ?_
                | refine ⟨cpt_ok (by kernel_rfl), ?_⟩
                | refine ⟨by decide, ?_⟩
                | fail
              refine congrArg (fun z => Value.tuple #[.string z, .int .i64 0]) ?_
              simp only [lc, lb, lp, lr, lt, bs_app, barJ_cons, barJ_nil, List.append_assoc, List.cons_append, List.nil_append, List.append_nil]
            | false =>
              rw [if_neg (by simp)]
              repeat' first
                | refine brP.fD (by omega) ?_
                | refine brP.tN (by omega) ?_
                | refine (ck).call ?_
                | refine .inl ⟨_, le, ?_⟩
                | refine (mv).call ?_
                | refine (mr).call ?_
                | refine ⟨by (try simp only [ByteArray.size_append]); omega, ?_⟩
                | (apply Here.norm; (first | dsimp only [Env.putR, argEnv, pure1, newPtr, applyE, hset, List.length_cons, List.length_nil, List.length_append, List.set, List.cons_append, List.nil_append] | rfl); (first | dsimp only [Env.putR, argEnv, pure1, newPtr, applyE, hset, List.length_cons, List.length_nil, List.length_append, List.set, List.cons_append, List.nil_append] | rfl))
                | refine ⟨_, _, _, _, _, rfl, _, rfl, ?_⟩
                | refine ⟨_, _, _, _, _, rfl, Fits.mk (by first | exact Nat.le_of_ble_eq_true rfl | (dsimp only; omega)), _, rfl, ?_⟩
                | refine draw_go (C_ok W0) (by kernel_rfl) ?_
                | refine ⟨cpt_ok (by kernel_rfl), ?_⟩
                | refine ⟨by decide, ?_⟩
                | fail
              refine congrArg (fun z => Value.tuple #[.string z, .int .i64 0]) ?_
              simp only [lc, lb, lp, lr, lt, bs_app, barJ_cons, barJ_nil, List.append_assoc, List.cons_append, List.nil_append, List.append_nil]
      | false =>
        rw [if_neg (fun z => by cases z.1)]
        by_cases r0 : r = 1000000
        · rw [if_pos r0]
          cases t with
          | true =>
            have ft := ft rfl
            have il := il rfl
            rw [if_pos rfl]
            repeat' first
              | refine brP.tN (by omega) ?_
              | refine brP.fN (by omega) ?_
              | refine (ck).call ?_
              | refine .inl ⟨_, le, ?_⟩
              | refine (mv).call ?_
              | refine (ft).call ?_
              | refine ⟨by (try simp only [ByteArray.size_append]); omega, ?_⟩
              | (apply Here.norm; (first | dsimp only [Env.putR, argEnv, pure1, newPtr, applyE, hset, List.length_cons, List.length_nil, List.length_append, List.set, List.cons_append, List.nil_append] | rfl); (first | dsimp only [Env.putR, argEnv, pure1, newPtr, applyE, hset, List.length_cons, List.length_nil, List.length_append, List.set, List.cons_append, List.nil_append] | rfl))
              | refine ⟨_, _, _, _, _, rfl, _, rfl, ?_⟩
              | refine ⟨_, _, _, _, _, rfl, Fits.mk (by first | exact Nat.le_of_ble_eq_true rfl | (dsimp only; omega)), _, rfl, ?_⟩
              | refine draw_go (C_ok W0) (by kernel_rfl) ?_
              | refine ⟨cpt_ok (by kernel_rfl), ?_⟩
              | refine ⟨by decide, ?_⟩
              | fail
            refine congrArg (fun z => Value.tuple #[.string z, .int .i64 0]) ?_
            simp only [lc, lb, lp, lr, lt, bs_app, barJ_cons, barJ_nil, List.append_assoc, List.cons_append, List.nil_append, List.append_nil]
          | false =>
            rw [if_neg (by simp)]
            repeat' first
              | refine brP.tN (by omega) ?_
              | refine brP.fN (by omega) ?_
              | refine (ck).call ?_
              | refine .inl ⟨_, le, ?_⟩
              | refine (mv).call ?_
              | refine ⟨by (try simp only [ByteArray.size_append]); omega, ?_⟩
              | (apply Here.norm; (first | dsimp only [Env.putR, argEnv, pure1, newPtr, applyE, hset, List.length_cons, List.length_nil, List.length_append, List.set, List.cons_append, List.nil_append] | rfl); (first | dsimp only [Env.putR, argEnv, pure1, newPtr, applyE, hset, List.length_cons, List.length_nil, List.length_append, List.set, List.cons_append, List.nil_append] | rfl))
              | refine ⟨_, _, _, _, _, rfl, _, rfl, ?_⟩
              | refine ⟨_, _, _, _, _, rfl, Fits.mk (by first | exact Nat.le_of_ble_eq_true rfl | (dsimp only; omega)), _, rfl, ?_⟩
              | refine draw_go (C_ok W0) (by kernel_rfl) ?_
              | refine ⟨cpt_ok (by kernel_rfl), ?_⟩
              | refine ⟨by decide, ?_⟩
              | fail
            refine congrArg (fun z => Value.tuple #[.string z, .int .i64 0]) ?_
            simp only [lc, lb, lp, lr, lt, bs_app, barJ_cons, barJ_nil, List.append_assoc, List.cons_append, List.nil_append, List.append_nil]
        · rw [if_neg r0]
          cases t with
          | true =>
            have ft := ft rfl
            have il := il rfl
            rw [if_pos rfl]
            repeat' first
              | refine brP.tN (by omega) ?_
              | refine (ck).call ?_
              | refine .inl ⟨_, le, ?_⟩
              | refine (mv).call ?_
              | refine (mr).call ?_
              | refine (ft).call ?_
              | refine ⟨by (try simp only [ByteArray.size_append]); omega, ?_⟩
              | (apply Here.norm; (first | dsimp only [Env.putR, argEnv, pure1, newPtr, applyE, hset, List.length_cons, List.length_nil, List.length_append, List.set, List.cons_append, List.nil_append] | rfl); (first | dsimp only [Env.putR, argEnv, pure1, newPtr, applyE, hset, List.length_cons, List.length_nil, List.length_append, List.set, List.cons_append, List.nil_append] | rfl))
              | refine ⟨_, _, _, _, _, rfl, _, rfl, ?_⟩
              | refine ⟨_, _, _, _, _, rfl, Fits.mk (by first | exact Nat.le_of_ble_eq_true rfl | (dsimp only; omega)), _, rfl, ?_⟩
              | refine draw_go (C_ok W0) (by kernel_rfl) ?_
              | refine ⟨cpt_ok (by kernel_rfl), ?_⟩
              | refine ⟨by decide, ?_⟩
              | fail
            refine congrArg (fun z => Value.tuple #[.string z, .int .i64 0]) ?_
            simp only [lc, lb, lp, lr, lt, bs_app, barJ_cons, barJ_nil, List.append_assoc, List.cons_append, List.nil_append, List.append_nil]
          | false =>
            rw [if_neg (by simp)]
            repeat' first
              | refine brP.tN (by omega) ?_
              | refine (ck).call ?_
              | refine .inl ⟨_, le, ?_⟩
              | refine (mv).call ?_
              | refine (mr).call ?_
              | refine ⟨by (try simp only [ByteArray.size_append]); omega, ?_⟩
              | (apply Here.norm; (first | dsimp only [Env.putR, argEnv, pure1, newPtr, applyE, hset, List.length_cons, List.length_nil, List.length_append, List.set, List.cons_append, List.nil_append] | rfl); (first | dsimp only [Env.putR, argEnv, pure1, newPtr, applyE, hset, List.length_cons, List.length_nil, List.length_append, List.set, List.cons_append, List.nil_append] | rfl))
              | refine ⟨_, _, _, _, _, rfl, _, rfl, ?_⟩
              | refine ⟨_, _, _, _, _, rfl, Fits.mk (by first | exact Nat.le_of_ble_eq_true rfl | (dsimp only; omega)), _, rfl, ?_⟩
              | refine draw_go (C_ok W0) (by kernel_rfl) ?_
              | refine ⟨cpt_ok (by kernel_rfl), ?_⟩
              | refine ⟨by decide, ?_⟩
              | fail
            refine congrArg (fun z => Value.tuple #[.string z, .int .i64 0]) ?_
            simp only [lc, lb, lp, lr, lt, bs_app, barJ_cons, barJ_nil, List.append_assoc, List.cons_append, List.nil_append, List.append_nil]
  · rw [if_neg h]
    repeat' first
      | refine brP.tN (by omega) ?_
      | refine (ck).call ?_
      | (apply Here.norm; (first | dsimp only [Env.putR, argEnv, pure1, newPtr, applyE, hset, List.length_cons, List.length_nil, List.length_append, List.set, List.cons_append, List.nil_append] | rfl); (first | dsimp only [Env.putR, argEnv, pure1, newPtr, applyE, hset, List.length_cons, List.length_nil, List.length_append, List.set, List.cons_append, List.nil_append] | rfl))
      | refine ⟨_, _, _, _, _, rfl, Fits.mk (by first | exact Nat.le_of_ble_eq_true rfl | (dsimp only; omega)), _, rfl, ?_⟩
      | fail
    rfl
end Go.Proofs.YtioahngbfdfcaaaGreatDoor
