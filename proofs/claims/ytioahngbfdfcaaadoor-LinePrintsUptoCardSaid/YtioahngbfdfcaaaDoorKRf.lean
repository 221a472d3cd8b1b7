import Derived.Test.YtioahngbfdfcaaaDoorKRe
import Derived.Test.YtioahngbfdfcaaaDoorKRb
import Derived.Test.YtioahngbfdfcaaaDoorKLw
set_option linter.unusedVariables false
set_option linter.unusedSimpArgs false
namespace Go.Proofs.YtioahngbfdfcaaaDoor
open Go Go.Den Go.RowKit
variable {W0 : World}
/-! tumblerref04: Letters, digits, Print; LinePrints -/
theorem ref4_Letters (k : Int) : PureF (C W0) I.tumblerref04_Letters [.int .i64 k] (.string (bs (letE k))) := by
  refine PureF.E (CallP.of_body (C_ok W0) B.tumblerref04_Letters rfl rfl rfl ?_)
  by_cases h1 : k = 1
  · subst h1
    repeat' first
      | (apply Here.norm; (first | dsimp only [Env.putR, argEnv, pure1, newPtr, applyE, hset, List.length_cons, List.length_nil, List.length_append, List.set, List.cons_append, List.nil_append] | rfl); (first | dsimp only [Env.putR, argEnv, pure1, newPtr, applyE, hset, List.length_cons, List.length_nil, List.length_append, List.set, List.cons_append, List.nil_append] | rfl))
      | fail
    rfl
  · by_cases h2 : k = 2
    · subst h2
      repeat' first
        | (apply Here.norm; (first | dsimp only [Env.putR, argEnv, pure1, newPtr, applyE, hset, List.length_cons, List.length_nil, List.length_append, List.set, List.cons_append, List.nil_append] | rfl); (first | dsimp only [Env.putR, argEnv, pure1, newPtr, applyE, hset, List.length_cons, List.length_nil, List.length_append, List.set, List.cons_append, List.nil_append] | rfl))
        | fail
      rfl
    · by_cases h3 : k = 3
      · subst h3
        repeat' first
          | (apply Here.norm; (first | dsimp only [Env.putR, argEnv, pure1, newPtr, applyE, hset, List.length_cons, List.length_nil, List.length_append, List.set, List.cons_append, List.nil_append] | rfl); (first | dsimp only [Env.putR, argEnv, pure1, newPtr, applyE, hset, List.length_cons, List.length_nil, List.length_append, List.set, List.cons_append, List.nil_append] | rfl))
          | fail
        rfl
      · unfold letE
        rw [if_neg h1, if_neg h2, if_neg h3]
        repeat' first
          | refine brP.fD (by omega) ?_
          | (apply Here.norm; (first | dsimp only [Env.putR, argEnv, pure1, newPtr, applyE, hset, List.length_cons, List.length_nil, List.length_append, List.set, List.cons_append, List.nil_append] | rfl); (first | dsimp only [Env.putR, argEnv, pure1, newPtr, applyE, hset, List.length_cons, List.length_nil, List.length_append, List.set, List.cons_append, List.nil_append] | rfl))
          | fail
        rfl
theorem dig_i8 {n : Nat} (h : n < 10) : IntKind.u8.wrap (IntKind.i64.wrap (48 + (n : Int))) = ((dig n).toNat : Int) := by
  rw [dig_toNat h, wrap_in (by omega)]
  simp [IntKind.wrap, IntKind.bits, IntKind.signed]; omega
set_option maxRecDepth 20000 in
set_option maxHeartbeats 8000000 in
theorem ref4_digits (N : Nat) (hN : N ≤ 1099511627775) : PureF (C W0) I.tumblerref04_digits [.int .i64 N] (.string (bs (Lib.decDigits N))) := by
  refine PureF.E (CallP.of_body (C_ok W0) B.tumblerref04_digits rfl rfl rfl ?_)
  have pl : (Lib.decDigits N).length ≤ 20 := dec_len (k := 19) (by rw [show (10 : Nat) ^ (19 + 1) = 100000000000000000000 by decide]; omega)
  generalize hP : Lib.decDigits N = P at *
  repeat' first
    | (apply Here.norm; (first | dsimp only [Env.putR, argEnv, pure1, newPtr, applyE, hset, List.length_cons, List.length_nil, List.length_append, List.set, List.cons_append, List.nil_append] | rfl); (first | dsimp only [Env.putR, argEnv, pure1, newPtr, applyE, hset, List.length_cons, List.length_nil, List.length_append, List.set, List.cons_append, List.nil_append] | rfl))
    | fail
  refine loop_I (C_ok W0) (fun q : Nat × List UInt8 => q.1 ≤ 1099511627775 ∧ Lib.decDigits q.1 ++ q.2 = P)
    (fun q => [(0, .int .i64 q.1), (3, .string (bs q.2))]) (fun q => []) (fun q => q.1) (N, [])
    ⟨hN, by rw [List.append_nil]; exact hP⟩ ⟨_, rfl, RT.of_eq rfl rfl⟩ ?_
  rintro ⟨n, s⟩ ⟨g1, g2⟩
  dsimp only at g1 g2 ⊢
  have sz := bs_size s
  have sl : s.length ≤ 20 := by rw [← g2] at pl; rw [List.length_append] at pl; omega
  have z1 : ∀ b : UInt8, (⟨[b].toArray⟩ : ByteArray).size = 1 := fun _ => rfl
  by_cases h : n < 10
  · have d8 := dig_i8 h
    rw [dec_small h] at g2
    repeat' first
      | refine brP.fD (by omega) ?_
      | refine ⟨rfl, by decide, ?_⟩
      | refine .inr ⟨rfl, Nat.succ_pos _, _, _, _, _, _, rfl, rfl, Nat.le_refl _, _, one_byte d8, ?_⟩
      | refine ⟨by (try simp only [ByteArray.size_append, z1]); omega, ?_⟩
      | (apply Here.norm; (first | dsimp only [Env.putR, argEnv, pure1, newPtr, applyE, hset, List.length_cons, List.length_nil, List.length_append, List.set, List.cons_append, List.nil_append] | rfl); (first | dsimp only [Env.putR, argEnv, pure1, newPtr, applyE, hset, List.length_cons, List.length_nil, List.length_append, List.set, List.cons_append, List.nil_append] | rfl))
      | fail
    refine congrArg Value.string ?_
    rw [cons_bs, ← g2]; rfl
  · have et : (n : Int).tmod 10 = ((n % 10 : Nat) : Int) := by rw [Int.tmod_eq_emod_of_nonneg (by omega)]; omega
    have d8 : IntKind.u8.wrap (IntKind.i64.wrap (48 + (n : Int).tmod 10)) = ((dig (n % 10)).toNat : Int) := by rw [et]; exact dig_i8 (by omega)
    have eq : IntKind.i64.wrap ((n : Int).tdiv 10) = ((n / 10 : Nat) : Int) := by rw [Int.tdiv_eq_ediv_of_nonneg (by omega), wrap_in (by omega)]; omega
    rw [dec_big h] at g2
    repeat' first
      | refine brP.tD (by omega) ?_
      | refine ⟨rfl, by decide, ?_⟩
      | refine .inr ⟨rfl, Nat.succ_pos _, _, _, _, _, _, rfl, rfl, Nat.le_refl _, _, one_byte d8, ?_⟩
      | refine ⟨by (try simp only [ByteArray.size_append, z1]); omega, ?_⟩
      | (apply Here.norm; (first | dsimp only [Env.putR, argEnv, pure1, newPtr, applyE, hset, List.length_cons, List.length_nil, List.length_append, List.set, List.cons_append, List.nil_append] | rfl); (first | dsimp only [Env.putR, argEnv, pure1, newPtr, applyE, hset, List.length_cons, List.length_nil, List.length_append, List.set, List.cons_append, List.nil_append] | rfl))
      | refine ⟨NzB.mk (by first | decide | omega), ?_⟩
      | fail
    apply Again.mk (n / 10, dig (n % 10) :: s)
    · exact ⟨by dsimp only; omega, by simpa using g2⟩
    · dsimp only; omega
    · refine ⟨_, rfl, ?_⟩
      dsimp only [List.map]
      refine RT.ren [] rfl rfl ?_ ?_
      all_goals (repeat' first
        | exact trivial
        | exact LTo.nil
        | refine LTo.cons ?_ ?_
        | refine VTo.int ?_
        | refine VTo.string ?_
        | fail)
      all_goals first
        | exact cons_bs _ _
        | exact eq
        | rfl
attribute [local irreducible] okName fitsV memL showW checkV printV
set_option maxRecDepth 20000 in
set_option maxHeartbeats 8000000 in
theorem ref4_Print (e : Ev) (hn : e.name.length ≤ 1048576) (hm : e.member.length ≤ 1048576) : PureF (C W0) I.tumblerref04_Print [evV e] (prV e) := by
  have ck := ref4_Check (W0 := W0) e hn hm
  have le := ref4_Letters (W0 := W0) e.kind
  refine PureF.E (CallP.of_body (C_ok W0) B.tumblerref04_Print rfl rfl rfl ?_)
  unfold prV
  by_cases h : checkV e = 0
  · have m := (check_iff e).mp h
    rw [if_pos h]
    rw [h] at ck ⊢
    have mv := ref2_Print (W0 := W0) e.value (by have := m.value; unfold Hi; omega)
    have mr := ref2_Print (W0 := W0) e.rate (by have := m.rate; unfold Hi; omega)
    have ft : e.timed = true → PureF (C W0) I.tumblerref04_digits [.int .i64 e.time] (.string (bs (Lib.itoa e.time))) := fun z => by
      have t := m.time z
      have d := ref4_digits (W0 := W0) e.time.toNat (by omega)
      rw [show ((e.time.toNat : Nat) : Int) = e.time by omega] at d
      rw [show Lib.itoa e.time = Lib.decDigits e.time.toNat by unfold Lib.itoa; rw [if_neg (by omega)]]
      exact d
    have il : e.timed = true → (Lib.itoa e.time).length ≤ 20 := fun z => itoa_len (m.time z).1 (m.time z).2
    have nl := okName_len m.name
    have vl := show_len e.value (by have := m.value; omega)
    have rl := show_len e.rate (by have := m.rate; omega)
    have ml : e.member.length ≤ 100 := by
      by_cases k4 : e.kind = 4
      · exact (mem_bar (m.set k4).2).2
      · rw [m.member k4]; decide
    have ll := (let_E e.kind).2
    have dk := m.delta
    clear m h
    obtain ⟨nm, k, v, d, mb, r, t, x⟩ := e
    dsimp only at *
    unfold printV rateT timeT valT
    dsimp only
    generalize letE k = L at *
    generalize Lib.itoa x = X at *
    have s1 := bs_size nm
    have s2 := bs_size (showW v)
    have s3 := bs_size (showW r)
    have s4 := bs_size mb
    have s5 := bs_size L
    have s6 := bs_size X
    generalize showW v = V at *
    generalize showW r = Q at *
    have zc : (⟨#[58]⟩ : ByteArray).size = 1 := rfl
    have zb : (⟨#[124]⟩ : ByteArray).size = 1 := rfl
    have zp : (⟨#[43]⟩ : ByteArray).size = 1 := rfl
    have zr : (⟨#[124, 64]⟩ : ByteArray).size = 2 := rfl
    have zt : (⟨#[124, 84]⟩ : ByteArray).size = 2 := rfl
    have lc : (⟨#[58]⟩ : ByteArray) = bs [58] := rfl
    have lb : (⟨#[124]⟩ : ByteArray) = bs [124] := rfl
    have lp : (⟨#[43]⟩ : ByteArray) = bs [43] := rfl
    have lr : (⟨#[124, 64]⟩ : ByteArray) = bs [124, 64] := rfl
    have lt : (⟨#[124, 84]⟩ : ByteArray) = bs [124, 84] := rfl
    by_cases k4 : k = 4
    · rw [if_pos k4]
      by_cases r0 : r = 1000000
      · rw [if_pos r0]
        cases t with
        | true =>
          have ft := ft rfl
          have il := il rfl
          rw [if_pos rfl]
          repeat' first
            | refine brP.tD (by omega) ?_
            | refine brP.fN (by omega) ?_
            | refine (ck).call ?_
            | refine (le).call ?_
            | refine (ft).call ?_
            | refine ⟨by (try simp only [ByteArray.size_append]); omega, ?_⟩
            | (apply Here.norm; (first | dsimp only [Env.putR, argEnv, pure1, newPtr, applyE, hset, List.length_cons, List.length_nil, List.length_append, List.set, List.cons_append, List.nil_append] | rfl); (first | dsimp only [Env.putR, argEnv, pure1, newPtr, applyE, hset, List.length_cons, List.length_nil, List.length_append, List.set, List.cons_append, List.nil_append] | rfl))
            | refine ⟨_, _, _, _, _, rfl, _, rfl, ?_⟩
            | refine ⟨_, _, _, _, _, rfl, Fits.mk (by first | exact Nat.le_of_ble_eq_true rfl | (dsimp only; omega)), _, rfl, ?_⟩
            | refine ⟨by decide, ?_⟩
            | fail
          refine congrArg (fun z => Value.tuple #[.string z, .int .i64 0]) ?_
          simp only [lc, lb, lp, lr, lt, bs_app, barJ_cons, barJ_nil, List.append_assoc, List.cons_append, List.nil_append, List.append_nil]
        | false =>
          rw [if_neg (by simp)]
          repeat' first
            | refine brP.tD (by omega) ?_
            | refine brP.fN (by omega) ?_
            | refine (ck).call ?_
            | refine (le).call ?_
            | refine ⟨by (try simp only [ByteArray.size_append]); omega, ?_⟩
            | (apply Here.norm; (first | dsimp only [Env.putR, argEnv, pure1, newPtr, applyE, hset, List.length_cons, List.length_nil, List.length_append, List.set, List.cons_append, List.nil_append] | rfl); (first | dsimp only [Env.putR, argEnv, pure1, newPtr, applyE, hset, List.length_cons, List.length_nil, List.length_append, List.set, List.cons_append, List.nil_append] | rfl))
            | refine ⟨_, _, _, _, _, rfl, _, rfl, ?_⟩
            | refine ⟨_, _, _, _, _, rfl, Fits.mk (by first | exact Nat.le_of_ble_eq_true rfl | (dsimp only; omega)), _, rfl, ?_⟩
            | refine ⟨by decide, ?_⟩
            | fail
          refine congrArg (fun z => Value.tuple #[.string z, .int .i64 0]) ?_
          simp only [lc, lb, lp, lr, lt, bs_app, barJ_cons, barJ_nil, List.append_assoc, List.cons_append, List.nil_append, List.append_nil]
      · rw [if_neg r0]
        cases t with
        | true =>
          have ft := ft rfl
          have il := il rfl
          rw [if_pos rfl]
          repeat' first
            | refine brP.tD (by omega) ?_
            | refine brP.tN (by omega) ?_
            | refine (ck).call ?_
            | refine (le).call ?_
            | refine (mr).call ?_
            | refine (ft).call ?_
            | refine ⟨by (try simp only [ByteArray.size_append]); omega, ?_⟩
            | (apply Here.norm; (first | dsimp only [Env.putR, argEnv, pure1, newPtr, applyE, hset, List.length_cons, List.length_nil, List.length_append, List.set, List.cons_append, List.nil_append] | rfl); (first | dsimp only [Env.putR, argEnv, pure1, newPtr, applyE, hset, List.length_cons, List.length_nil, List.length_append, List.set, List.cons_append, List.nil_append] | rfl))
            | refine ⟨_, _, _, _, _, rfl, _, rfl, ?_⟩
            | refine ⟨_, _, _, _, _, rfl, Fits.mk (by first | exact Nat.le_of_ble_eq_true rfl | (dsimp only; omega)), _, rfl, ?_⟩
            | refine ⟨by decide, ?_⟩
            | fail
          refine congrArg (fun z => Value.tuple #[.string z, .int .i64 0]) ?_
          simp only [lc, lb, lp, lr, lt, bs_app, barJ_cons, barJ_nil, List.append_assoc, List.cons_append, List.nil_append, List.append_nil]
        | false =>
          rw [if_neg (by simp)]
          repeat' first
            | refine brP.tD (by omega) ?_
            | refine brP.tN (by omega) ?_
            | refine (ck).call ?_
            | refine (le).call ?_
            | refine (mr).call ?_
            | refine ⟨by (try simp only [ByteArray.size_append]); omega, ?_⟩
            | (apply Here.norm; (first | dsimp only [Env.putR, argEnv, pure1, newPtr, applyE, hset, List.length_cons, List.length_nil, List.length_append, List.set, List.cons_append, List.nil_append] | rfl); (first | dsimp only [Env.putR, argEnv, pure1, newPtr, applyE, hset, List.length_cons, List.length_nil, List.length_append, List.set, List.cons_append, List.nil_append] | rfl))
            | refine ⟨_, _, _, _, _, rfl, _, rfl, ?_⟩
            | refine ⟨_, _, _, _, _, rfl, Fits.mk (by first | exact Nat.le_of_ble_eq_true rfl | (dsimp only; omega)), _, rfl, ?_⟩
            | refine ⟨by decide, ?_⟩
            | fail
          refine congrArg (fun z => Value.tuple #[.string z, .int .i64 0]) ?_
          simp only [lc, lb, lp, lr, lt, bs_app, barJ_cons, barJ_nil, List.append_assoc, List.cons_append, List.nil_append, List.append_nil]
    · rw [if_neg k4]
      cases d with
      | true =>
        by_cases v0 : 0 ≤ v
        · rw [if_pos ⟨rfl, v0⟩]
          by_cases r0 : r = 1000000
          · rw [if_pos r0]
            cases t with
            | true =>
              have ft := ft rfl
              have il := il rfl
              rw [if_pos rfl]
              repeat' first
                | refine brP.tD (by omega) ?_
                | refine brP.fD (by omega) ?_
                | refine brP.fN (by omega) ?_
                | refine (ck).call ?_
                | refine (le).call ?_
                | refine (mv).call ?_
                | refine (ft).call ?_
                | refine ⟨by (try simp only [ByteArray.size_append]); omega, ?_⟩
                | (apply Here.norm; (first | dsimp only [Env.putR, argEnv, pure1, newPtr, applyE, hset, List.length_cons, List.length_nil, List.length_append, List.set, List.cons_append, List.nil_append] | rfl); (first | dsimp only [Env.putR, argEnv, pure1, newPtr, applyE, hset, List.length_cons, List.length_nil, List.length_append, List.set, List.cons_append, List.nil_append] | rfl))
                | refine ⟨_, _, _, _, _, rfl, _, rfl, ?_⟩
                | refine ⟨_, _, _, _, _, rfl, Fits.mk (by first | exact Nat.le_of_ble_eq_true rfl | (dsimp only; omega)), _, rfl, ?_⟩
                | refine ⟨by decide, ?_⟩
                | fail
              refine congrArg (fun z => Value.tuple #[.string z, .int .i64 0]) ?_
              simp only [lc, lb, lp, lr, lt, bs_app, barJ_cons, barJ_nil, List.append_assoc, List.cons_append, List.nil_append, List.append_nil]
            | false =>
              rw [if_neg (by simp)]
              repeat' first
                | refine brP.tD (by omega) ?_
                | refine brP.fD (by omega) ?_
                | refine brP.fN (by omega) ?_
                | refine (ck).call ?_
                | refine (le).call ?_
                | refine (mv).call ?_
                | refine ⟨by (try simp only [ByteArray.size_append]); omega, ?_⟩
                | (apply Here.norm; (first | dsimp only [Env.putR, argEnv, pure1, newPtr, applyE, hset, List.length_cons, List.length_nil, List.length_append, List.set, List.cons_append, List.nil_append] | rfl); (first | dsimp only [Env.putR, argEnv, pure1, newPtr, applyE, hset, List.length_cons, List.length_nil, List.length_append, List.set, List.cons_append, List.nil_append] | rfl))
                | refine ⟨_, _, _, _, _, rfl, _, rfl, ?_⟩
                | refine ⟨_, _, _, _, _, rfl, Fits.mk (by first | exact Nat.le_of_ble_eq_true rfl | (dsimp only; omega)), _, rfl, ?_⟩
                | refine ⟨by decide, ?_⟩
                | fail
              refine congrArg (fun z => Value.tuple #[.string z, .int .i64 0]) ?_
              simp only [lc, lb, lp, lr, lt, bs_app, barJ_cons, barJ_nil, List.append_assoc, List.cons_append, List.nil_append, List.append_nil]
          · rw [if_neg r0]
            cases t with
            | true =>
              have ft := ft rfl
              have il := il rfl
              rw [if_pos rfl]
              repeat' first
                | refine brP.tD (by omega) ?_
                | refine brP.fD (by omega) ?_
                | refine brP.tN (by omega) ?_
                | refine (ck).call ?_
                | refine (le).call ?_
                | refine (mv).call ?_
                | refine (mr).call ?_
                | refine (ft).call ?_
                | refine ⟨by (try simp only [ByteArray.size_append]); omega, ?_⟩
                | (apply Here.norm; (first | dsimp only [Env.putR, argEnv, pure1, newPtr, applyE, hset, List.length_cons, List.length_nil, List.length_append, List.set, List.cons_append, List.nil_append] | rfl); (first | dsimp only [Env.putR, argEnv, pure1, newPtr, applyE, hset, List.length_cons, List.length_nil, List.length_append, List.set, List.cons_append, List.nil_append] | rfl))
                | refine ⟨_, _, _, _, _, rfl, _, rfl, ?_⟩
                | refine ⟨_, _, _, _, _, rfl, Fits.mk (by first | exact Nat.le_of_ble_eq_true rfl | (dsimp only; omega)), _, rfl, ?_⟩
                | refine ⟨by decide, ?_⟩
                | fail
              refine congrArg (fun z => Value.tuple #[.string z, .int .i64 0]) ?_
              simp only [lc, lb, lp, lr, lt, bs_app, barJ_cons, barJ_nil, List.append_assoc, List.cons_append, List.nil_append, List.append_nil]
            | false =>
              rw [if_neg (by simp)]
              repeat' first
                | refine brP.tD (by omega) ?_
                | refine brP.fD (by omega) ?_
                | refine brP.tN (by omega) ?_
                | refine (ck).call ?_
                | refine (le).call ?_
                | refine (mv).call ?_
                | refine (mr).call ?_
                | refine ⟨by (try simp only [ByteArray.size_append]); omega, ?_⟩
                | (apply Here.norm; (first | dsimp only [Env.putR, argEnv, pure1, newPtr, applyE, hset, List.length_cons, List.length_nil, List.length_append, List.set, List.cons_append, List.nil_append] | rfl); (first | dsimp only [Env.putR, argEnv, pure1, newPtr, applyE, hset, List.length_cons, List.length_nil, List.length_append, List.set, List.cons_append, List.nil_append] | rfl))
                | refine ⟨_, _, _, _, _, rfl, _, rfl, ?_⟩
                | refine ⟨_, _, _, _, _, rfl, Fits.mk (by first | exact Nat.le_of_ble_eq_true rfl | (dsimp only; omega)), _, rfl, ?_⟩
                | refine ⟨by decide, ?_⟩
                | fail
              refine congrArg (fun z => Value.tuple #[.string z, .int .i64 0]) ?_
              simp only [lc, lb, lp, lr, lt, bs_app, barJ_cons, barJ_nil, List.append_assoc, List.cons_append, List.nil_append, List.append_nil]
        · rw [if_neg (fun z => v0 z.2)]
          by_cases r0 : r = 1000000
          · rw [if_pos r0]
            cases t with
            | true =>
              have ft := ft rfl
              have il := il rfl
              rw [if_pos rfl]
              repeat' first
                | refine brP.fD (by omega) ?_
                | refine brP.fN (by omega) ?_
                | refine (ck).call ?_
                | refine (le).call ?_
                | refine (mv).call ?_
                | refine (ft).call ?_
                | refine ⟨by (try simp only [ByteArray.size_append]); omega, ?_⟩
                | (apply Here.norm; (first | dsimp only [Env.putR, argEnv, pure1, newPtr, applyE, hset, List.length_cons, List.length_nil, List.length_append, List.set, List.cons_append, List.nil_append] | rfl); (first | dsimp only [Env.putR, argEnv, pure1, newPtr, applyE, hset, List.length_cons, List.length_nil, List.length_append, List.set, List.cons_append, List.nil_append] | rfl))
                | refine ⟨_, _, _, _, _, rfl, _, rfl, ?_⟩
                | refine ⟨_, _, _, _, _, rfl, Fits.mk (by first | exact Nat.le_of_ble_eq_true rfl | (dsimp only; omega)), _, rfl, ?_⟩
                | refine ⟨by decide, ?_⟩
                | fail
              refine congrArg (fun z => Value.tuple #[.string z, .int .i64 0]) ?_
              simp only [lc, lb, lp, lr, lt, bs_app, barJ_cons, barJ_nil, List.append_assoc, List.cons_append, List.nil_append, List.append_nil]
            | false =>
              rw [if_neg (by simp)]
              repeat' first
                | refine brP.fD (by omega) ?_
                | refine brP.fN (by omega) ?_
                | refine (ck).call ?_
                | refine (le).call ?_
                | refine (mv).call ?_
                | refine ⟨by (try simp only [ByteArray.size_append]); omega, ?_⟩
                | (apply Here.norm; (first | dsimp only [Env.putR, argEnv, pure1, newPtr, applyE, hset, List.length_cons, List.length_nil, List.length_append, List.set, List.cons_append, List.nil_append] | rfl); (first | dsimp only [Env.putR, argEnv, pure1, newPtr, applyE, hset, List.length_cons, List.length_nil, List.length_append, List.set, List.cons_append, List.nil_append] | rfl))
                | refine ⟨_, _, _, _, _, rfl, _, rfl, ?_⟩
                | refine ⟨_, _, _, _, _, rfl, Fits.mk (by first | exact Nat.le_of_ble_eq_true rfl | (dsimp only; omega)), _, rfl, ?_⟩
                | refine ⟨by decide, ?_⟩
                | fail
              refine congrArg (fun z => Value.tuple #[.string z, .int .i64 0]) ?_
              simp only [lc, lb, lp, lr, lt, bs_app, barJ_cons, barJ_nil, List.append_assoc, List.cons_append, List.nil_append, List.append_nil]
          · rw [if_neg r0]
            cases t with
            | true =>
              have ft := ft rfl
              have il := il rfl
              rw [if_pos rfl]
              repeat' first
                | refine brP.fD (by omega) ?_
                | refine brP.tN (by omega) ?_
                | refine (ck).call ?_
                | refine (le).call ?_
                | refine (mv).call ?_
                | refine (mr).call ?_
                | refine (ft).call ?_
                | refine ⟨by (try simp only [ByteArray.size_append]); omega, ?_⟩
                | (apply Here.norm; (first | dsimp only [Env.putR, argEnv, pure1, newPtr, applyE, hset, List.length_cons, List.length_nil, List.length_append, List.set, List.cons_append, List.nil_append] | rfl); (first | dsimp only [Env.putR, argEnv, pure1, newPtr, applyE, hset, List.length_cons, List.length_nil, List.length_append, List.set, List.cons_append, List.nil_append] | rfl))
                | refine ⟨_, _, _, _, _, rfl, _, rfl, ?_⟩
                | refine ⟨_, _, _, _, _, rfl, Fits.mk (by first | exact Nat.le_of_ble_eq_true rfl | (dsimp only; omega)), _, rfl, ?_⟩
                | refine ⟨by decide, ?_⟩
                | fail
              refine congrArg (fun z => Value.tuple #[.string z, .int .i64 0]) ?_
              simp only [lc, lb, lp, lr, lt, bs_app, barJ_cons, barJ_nil, List.append_assoc, List.cons_append, List.nil_append, List.append_nil]
            | false =>
              rw [if_neg (by simp)]
              repeat' first
                | refine brP.fD (by omega) ?_
                | refine brP.tN (by omega) ?_
                | refine (ck).call ?_
                | refine (le).call ?_
                | refine (mv).call ?_
                | refine (mr).call ?_
                | refine ⟨by (try simp only [ByteArray.size_append]); omega, ?_⟩
                | (apply Here.norm; (first | dsimp only [Env.putR, argEnv, pure1, newPtr, applyE, hset, List.length_cons, List.length_nil, List.length_append, List.set, List.cons_append, List.nil_append] | rfl); (first | dsimp only [Env.putR, argEnv, pure1, newPtr, applyE, hset, List.length_cons, List.length_nil, List.length_append, List.set, List.cons_append, List.nil_append] | rfl))
                | refine ⟨_, _, _, _, _, rfl, _, rfl, ?_⟩
                | refine ⟨_, _, _, _, _, rfl, Fits.mk (by first | exact Nat.le_of_ble_eq_true rfl | (dsimp only; omega)), _, rfl, ?_⟩
                | refine ⟨by decide, ?_⟩
                | fail
              refine congrArg (fun z => Value.tuple #[.string z, .int .i64 0]) ?_
              simp only [lc, lb, lp, lr, lt, bs_app, barJ_cons, barJ_nil, List.append_assoc, List.cons_append, List.nil_append, List.append_nil]
      | false =>
        rw [if_neg (fun z => by cases z.1)]
        by_cases r0 : r = 1000000
        · rw [if_pos r0]
          cases t with
          | true =>
            have ft := ft rfl
            have il := il rfl
            rw [if_pos rfl]
            repeat' first
              | refine brP.fD (by omega) ?_
              | refine brP.fN (by omega) ?_
              | refine (ck).call ?_
              | refine (le).call ?_
              | refine (mv).call ?_
              | refine (ft).call ?_
              | refine ⟨by (try simp only [ByteArray.size_append]); omega, ?_⟩
              | (apply Here.norm; (first | dsimp only [Env.putR, argEnv, pure1, newPtr, applyE, hset, List.length_cons, List.length_nil, List.length_append, List.set, List.cons_append, List.nil_append] | rfl); (first | dsimp only [Env.putR, argEnv, pure1, newPtr, applyE, hset, List.length_cons, List.length_nil, List.length_append, List.set, List.cons_append, List.nil_append] | rfl))
              | refine ⟨_, _, _, _, _, rfl, _, rfl, ?_⟩
              | refine ⟨_, _, _, _, _, rfl, Fits.mk (by first | exact Nat.le_of_ble_eq_true rfl | (dsimp only; omega)), _, rfl, ?_⟩
              | refine ⟨by decide, ?_⟩
              | fail
            refine congrArg (fun z => Value.tuple #[.string z, .int .i64 0]) ?_
            simp only [lc, lb, lp, lr, lt, bs_app, barJ_cons, barJ_nil, List.append_assoc, List.cons_append, List.nil_append, List.append_nil]
          | false =>
            rw [if_neg (by simp)]
            repeat' first
              | refine brP.fD (by omega) ?_
              | refine brP.fN (by omega) ?_
              | refine (ck).call ?_
              | refine (le).call ?_
              | refine (mv).call ?_
              | refine ⟨by (try simp only [ByteArray.size_append]); omega, ?_⟩
              | (apply Here.norm; (first | dsimp only [Env.putR, argEnv, pure1, newPtr, applyE, hset, List.length_cons, List.length_nil, List.length_append, List.set, List.cons_append, List.nil_append] | rfl); (first | dsimp only [Env.putR, argEnv, pure1, newPtr, applyE, hset, List.length_cons, List.length_nil, List.length_append, List.set, List.cons_append, List.nil_append] | rfl))
              | refine ⟨_, _, _, _, _, rfl, _, rfl, ?_⟩
              | refine ⟨_, _, _, _, _, rfl, Fits.mk (by first | exact Nat.le_of_ble_eq_true rfl | (dsimp only; omega)), _, rfl, ?_⟩
              | refine ⟨by decide, ?_⟩
              | fail
            refine congrArg (fun z => Value.tuple #[.string z, .int .i64 0]) ?_
            simp only [lc, lb, lp, lr, lt, bs_app, barJ_cons, barJ_nil, List.append_assoc, List.cons_append, List.nil_append, List.append_nil]
        · rw [if_neg r0]
          cases t with
          | true =>
            have ft := ft rfl
            have il := il rfl
            rw [if_pos rfl]
            repeat' first
              | refine brP.fD (by omega) ?_
              | refine brP.tN (by omega) ?_
              | refine (ck).call ?_
              | refine (le).call ?_
              | refine (mv).call ?_
              | refine (mr).call ?_
              | refine (ft).call ?_
              | refine ⟨by (try simp only [ByteArray.size_append]); omega, ?_⟩
              | (apply Here.norm; (first | dsimp only [Env.putR, argEnv, pure1, newPtr, applyE, hset, List.length_cons, List.length_nil, List.length_append, List.set, List.cons_append, List.nil_append] | rfl); (first | dsimp only [Env.putR, argEnv, pure1, newPtr, applyE, hset, List.length_cons, List.length_nil, List.length_append, List.set, List.cons_append, List.nil_append] | rfl))
              | refine ⟨_, _, _, _, _, rfl, _, rfl, ?_⟩
              | refine ⟨_, _, _, _, _, rfl, Fits.mk (by first | exact Nat.le_of_ble_eq_true rfl | (dsimp only; omega)), _, rfl, ?_⟩
              | refine ⟨by decide, ?_⟩
              | fail
            refine congrArg (fun z => Value.tuple #[.string z, .int .i64 0]) ?_
            simp only [lc, lb, lp, lr, lt, bs_app, barJ_cons, barJ_nil, List.append_assoc, List.cons_append, List.nil_append, List.append_nil]
          | false =>
            rw [if_neg (by simp)]
            repeat' first
              | refine brP.fD (by omega) ?_
              | refine brP.tN (by omega) ?_
              | refine (ck).call ?_
              | refine (le).call ?_
              | refine (mv).call ?_
              | refine (mr).call ?_
              | refine ⟨by (try simp only [ByteArray.size_append]); omega, ?_⟩
              | (apply Here.norm; (first | dsimp only [Env.putR, argEnv, pure1, newPtr, applyE, hset, List.length_cons, List.length_nil, List.length_append, List.set, List.cons_append, List.nil_append] | rfl); (first | dsimp only [Env.putR, argEnv, pure1, newPtr, applyE, hset, List.length_cons, List.length_nil, List.length_append, List.set, List.cons_append, List.nil_append] | rfl))
              | refine ⟨_, _, _, _, _, rfl, _, rfl, ?_⟩
              | refine ⟨_, _, _, _, _, rfl, Fits.mk (by first | exact Nat.le_of_ble_eq_true rfl | (dsimp only; omega)), _, rfl, ?_⟩
              | refine ⟨by decide, ?_⟩
              | fail
            refine congrArg (fun z => Value.tuple #[.string z, .int .i64 0]) ?_
            simp only [lc, lb, lp, lr, lt, bs_app, barJ_cons, barJ_nil, List.append_assoc, List.cons_append, List.nil_append, List.append_nil]
  · rw [if_neg h]
    repeat' first
      | refine brP.tN (by omega) ?_
      | refine (ck).call ?_
      | (apply Here.norm; (first | dsimp only [Env.putR, argEnv, pure1, newPtr, applyE, hset, List.length_cons, List.length_nil, List.length_append, List.set, List.cons_append, List.nil_append] | rfl); (first | dsimp only [Env.putR, argEnv, pure1, newPtr, applyE, hset, List.length_cons, List.length_nil, List.length_append, List.set, List.cons_append, List.nil_append] | rfl))
      | refine ⟨_, _, _, _, _, rfl, Fits.mk (by first | exact Nat.le_of_ble_eq_true rfl | (dsimp only; omega)), _, rfl, ?_⟩
      | fail
    rfl
end Go.Proofs.YtioahngbfdfcaaaDoor
