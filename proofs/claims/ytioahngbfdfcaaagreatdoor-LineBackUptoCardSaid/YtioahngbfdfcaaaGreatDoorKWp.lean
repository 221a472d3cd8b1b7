import Derived.Test.YtioahngbfdfcaaaGreatDoorKQu
import Derived.Test.YtioahngbfdfcaaaGreatDoorKFm
set_option linter.unusedVariables false
set_option linter.unusedSimpArgs false
namespace Go.Proofs.YtioahngbfdfcaaaGreatDoor
open Go Go.Den Go.RowKit
variable {W0 : World}
/-! wide.Print of numbers below ten to the nineteenth; micro.Show, micro.Print of them -/
def sgnL (a : Int) : List UInt8 := if a < 0 then [45] else []
set_option maxRecDepth 20000 in
set_option maxHeartbeats 4000000 in
theorem wide_Print (hT : Tens W0) (a : Int) (ha : R a) (hm : mag a < 10000000000000000000) : PureF (C W0) I.wide_Print [wv a] (.string (bs (sgnL a ++ Lib.decDigits (mag a).toNat))) := by
  have na := mag_nonneg a
  have am := wide_amount (W0 := W0) a ha
  have dv := wide_divided (W0 := W0) (mag a) 10000000000000000000 na (by omega) (by decide) (by decide)
  rw [Int.ediv_eq_zero_of_lt na hm, Int.emod_eq_of_lt na hm] at dv
  have e1 : mag a % 18446744073709551616 = mag a := by omega
  have fu := FormatUint (W0 := W0) hT (mag a % 18446744073709551616) (by omega) (by omega)
  rw [show (mag a % 18446744073709551616).toNat = (mag a).toNat by rw [e1]] at fu
  have dl : (Lib.decDigits (mag a).toNat).length ≤ 20 := dec_len (k := 19) (by rw [show (10 : Nat) ^ (19 + 1) = 100000000000000000000 by decide]; omega)
  have sz := bs_size (Lib.decDigits (mag a).toNat)
  have z0 : (⟨#[]⟩ : ByteArray).size = 0 := rfl
  have z1 : (⟨#[45]⟩ : ByteArray).size = 1 := rfl
  have l1 : (⟨#[45]⟩ : ByteArray) = bs [45] := rfl
  have l0 : (⟨#[]⟩ : ByteArray) = bs [] := rfl
  generalize Lib.decDigits (mag a).toNat = ds at *
  refine PureF.E (CallP.of_body (C_ok W0) B.wide_Print rfl rfl rfl ?_)
  repeat' first
    | refine (am).call ?_
    | (apply Here.norm; (first | dsimp only [Env.putR, argEnv, pure1, newPtr, applyE, hset, List.length_cons, List.length_nil, List.length_append, List.set, List.cons_append, List.nil_append] | rfl); (first | dsimp only [Env.putR, argEnv, pure1, newPtr, applyE, hset, List.length_cons, List.length_nil, List.length_append, List.set, List.cons_append, List.nil_append] | rfl))
    | refine ⟨_, _, _, _, _, rfl, rfl, rfl, Fits.mk (by first | exact Nat.le_of_ble_eq_true rfl | (dsimp only; omega)), rfl, ?_⟩
    | refine ⟨_, _, _, _, _, rfl, Fits.mk (by first | exact Nat.le_of_ble_eq_true rfl | (dsimp only; omega)), _, rfl, ?_⟩
    | fail
  refine loop_I (C_ok W0) (fun _ : Nat => True) (fun _ => [(1, .pointer (some ⟨0, 0, none⟩)), (3, .pointer (some ⟨1, 0, none⟩)), (4, .string ⟨#[]⟩)]) (fun _ => [.cells (wv a).cells.toList 1 true false Y.api_Wide, .cells (av (mag a)).cells.toList 1 true false Y.wide_limbs]) (fun n => n) 0 trivial ⟨_, rfl, RT.of_eq rfl rfl⟩ ?_
  intro n _
  dsimp only
  by_cases c : a < 0
  ·
    repeat' first
      | refine brP.tD (by omega) ?_
      | refine (dv).call ?_
      | refine (fu).call ?_
      | refine ⟨by (try simp only [ByteArray.size_append]); omega, ?_⟩
      | (apply Here.norm; (first | dsimp only [Env.putR, argEnv, pure1, newPtr, applyE, hset, List.length_cons, List.length_nil, List.length_append, List.set, List.cons_append, List.nil_append] | rfl); (first | dsimp only [Env.putR, argEnv, pure1, newPtr, applyE, hset, List.length_cons, List.length_nil, List.length_append, List.set, List.cons_append, List.nil_append] | rfl))
      | refine ⟨_, _, _, _, _, rfl, rfl, rfl, Fits.mk (by first | exact Nat.le_of_ble_eq_true rfl | (dsimp only; omega)), rfl, ?_⟩
      | refine ⟨_, _, _, _, _, rfl, _, rfl, ?_⟩
      | refine ⟨_, _, _, _, _, rfl, Fits.mk (by first | exact Nat.le_of_ble_eq_true rfl | (dsimp only; omega)), _, rfl, ?_⟩
      | refine ⟨InB.mk (by first | decide | omega) (by first | decide | omega), ?_⟩
      | refine ⟨by decide, ?_⟩
      | refine ⟨_, rfl, ?_⟩
      | fail
    rw [l0, l1, bs_app, bs_app, List.append_nil]; unfold sgnL; rw [if_pos c]; rfl
  ·
    repeat' first
      | refine brP.fD (by omega) ?_
      | refine (dv).call ?_
      | refine (fu).call ?_
      | refine ⟨by (try simp only [ByteArray.size_append]); omega, ?_⟩
      | (apply Here.norm; (first | dsimp only [Env.putR, argEnv, pure1, newPtr, applyE, hset, List.length_cons, List.length_nil, List.length_append, List.set, List.cons_append, List.nil_append] | rfl); (first | dsimp only [Env.putR, argEnv, pure1, newPtr, applyE, hset, List.length_cons, List.length_nil, List.length_append, List.set, List.cons_append, List.nil_append] | rfl))
      | refine ⟨_, _, _, _, _, rfl, rfl, rfl, Fits.mk (by first | exact Nat.le_of_ble_eq_true rfl | (dsimp only; omega)), rfl, ?_⟩
      | refine ⟨_, _, _, _, _, rfl, _, rfl, ?_⟩
      | refine ⟨_, _, _, _, _, rfl, Fits.mk (by first | exact Nat.le_of_ble_eq_true rfl | (dsimp only; omega)), _, rfl, ?_⟩
      | refine ⟨InB.mk (by first | decide | omega) (by first | decide | omega), ?_⟩
      | refine ⟨by decide, ?_⟩
      | refine ⟨_, rfl, ?_⟩
      | fail
    rw [l0, bs_app, List.append_nil]; unfold sgnL; rw [if_neg c]; rfl
theorem take_snoc_ (a : List UInt8) (c : UInt8) : ((a ++ [c]).drop 0).take (a.length - 0) = a := by simp
theorem itoa_mil {m : Nat} (hm : m < 1000000) : Lib.itoa (1000000 + (m : Int)) = 49 :: pad 6 m := by
  have e := dec_split 1 6 m (by decide) (by decide) (by simpa using hm)
  rw [show 1 * 10 ^ 6 + m = 1000000 + m by simp, dec_small (u := 1) (by decide)] at e
  unfold Lib.itoa
  rw [if_neg (by omega), show (1000000 + (m : Int)).toNat = 1000000 + m by omega, e]; rfl
theorem abs_parts (v : Int) : mag v = (v.natAbs : Int) := by unfold mag; split <;> omega
set_option maxRecDepth 20000 in
set_option maxHeartbeats 8000000 in
theorem micro_Show (hT : Tens W0) (v : Int) (hv : Hi v) : PureF (C W0) I.micro_Show [wv v] (.string (bs (showW v))) := by
  have hR : R v := by unfold Hi R at *; omega
  have hq0 : (v.natAbs / 1000000 : Nat) < 10000000000000 := by unfold Hi at hv; omega
  have hr0 : v.natAbs % 1000000 < 1000000 := Nat.mod_lt _ (by decide)
  obtain ⟨q1, r1⟩ := round_quo v 1000000 (by decide)
  rw [abs_parts] at q1 r1
  have o := wide_Of (W0 := W0) 1000000 (by unfold Hi; omega)
  have qu := wide_Quo (W0 := W0) v 1000000 hR (by unfold R; omega)
  rw [quoV, quo3, if_neg (by decide), if_pos (by rw [q1]; unfold R; split <;> omega), q1, r1] at qu
  have eq : (v.natAbs : Int) / 1000000 = ((v.natAbs / 1000000 : Nat) : Int) := by omega
  have er : (v.natAbs : Int) % 1000000 = ((v.natAbs % 1000000 : Nat) : Int) := by omega
  rw [eq, er] at qu
  have sv := wide_Sign (W0 := W0) v hR
  unfold showW
  clear q1 r1 eq er
  generalize v.natAbs / 1000000 = q at *
  generalize v.natAbs % 1000000 = r at *
  have ir := itoa_mil hr0
  have fi := FormatInt (W0 := W0) hT (IntKind.i64.wrap (1000000 + (r : Int))) (by rw [wrap_in (by omega)]; omega)
  rw [show Lib.itoa (IntKind.i64.wrap (1000000 + (r : Int))) = 49 :: pad 6 r by rw [wrap_in (by omega), ir]] at fi
  have sm := wide_Small (W0 := W0) (r : Int) (by unfold R; omega)
  rw [if_pos (by unfold Hi; omega)] at sm
  refine PureF.E (CallP.of_body (C_ok W0) B.micro_Show rfl rfl rfl ?_)
  by_cases c : v < 0
  · have sc : wcmp v 0 = -1 := by unfold wcmp; rw [if_neg (by omega), if_pos c]
    rw [sc] at sv
    simp only [c, if_true] at qu ⊢
    have pq := wide_Print (W0 := W0) hT (-(q : Int)) (by unfold R; omega) (by unfold mag; split <;> omega)
    have sq := wide_Sign (W0 := W0) (-(q : Int)) (by unfold R; omega)
    have ng := wide_Neg (W0 := W0) (-(r : Int)) (by unfold R; omega)
    rw [Int.neg_neg, wev, wenc_in (by unfold R; omega)] at ng
    by_cases z : r = 0
    · subst z
      by_cases y : q = 0
      · subst y
        repeat' first
          | refine .inl ⟨_, o, ?_⟩
          | refine .inl ⟨_, qu, ?_⟩
          | refine (pq).call ?_
          | refine (sv).call ?_
          | refine (sq).call ?_
          | refine (ng).call ?_
          | refine (sm).call ?_
          | (apply Here.norm; (first | dsimp only [Env.putR, argEnv, pure1, newPtr, applyE, hset, List.length_cons, List.length_nil, List.length_append, List.set, List.cons_append, List.nil_append] | rfl); (first | dsimp only [Env.putR, argEnv, pure1, newPtr, applyE, hset, List.length_cons, List.length_nil, List.length_append, List.set, List.cons_append, List.nil_append] | rfl))
          | refine ⟨_, _, _, _, _, rfl, rfl, rfl, Fits.mk (by first | exact Nat.le_of_ble_eq_true rfl | (dsimp only; omega)), rfl, ?_⟩
          | refine ⟨_, _, _, _, _, rfl, Fits.mk (by first | exact Nat.le_of_ble_eq_true rfl | (dsimp only; omega)), _, rfl, ?_⟩
          | refine draw_go (C_ok W0) (by kernel_rfl) ?_
          | refine ⟨cpt_ok (by kernel_rfl), ?_⟩
          | refine ⟨_, rfl, ?_⟩
          | fail
        rw [show frac 0 = [] from rfl, dec_small (by decide)]; rfl
      · have et : sgnL (-(q : Int)) ++ Lib.decDigits (mag (-(q : Int))).toNat = [45] ++ Lib.decDigits q := by
          unfold sgnL mag; rw [if_pos (by omega), if_pos (by omega), Int.neg_neg, Int.toNat_natCast]
        have sc2 : wcmp (-(q : Int)) 0 = -1 := by unfold wcmp; rw [if_neg (by omega), if_pos (by omega)]
        rw [et] at pq
        rw [sc2] at sq
        repeat' first
          | refine .inl ⟨_, o, ?_⟩
          | refine .inl ⟨_, qu, ?_⟩
          | refine (pq).call ?_
          | refine (sv).call ?_
          | refine (sq).call ?_
          | refine (ng).call ?_
          | refine (sm).call ?_
          | (apply Here.norm; (first | dsimp only [Env.putR, argEnv, pure1, newPtr, applyE, hset, List.length_cons, List.length_nil, List.length_append, List.set, List.cons_append, List.nil_append] | rfl); (first | dsimp only [Env.putR, argEnv, pure1, newPtr, applyE, hset, List.length_cons, List.length_nil, List.length_append, List.set, List.cons_append, List.nil_append] | rfl))
          | refine ⟨_, _, _, _, _, rfl, rfl, rfl, Fits.mk (by first | exact Nat.le_of_ble_eq_true rfl | (dsimp only; omega)), rfl, ?_⟩
          | refine ⟨_, _, _, _, _, rfl, Fits.mk (by first | exact Nat.le_of_ble_eq_true rfl | (dsimp only; omega)), _, rfl, ?_⟩
          | refine draw_go (C_ok W0) (by kernel_rfl) ?_
          | refine ⟨cpt_ok (by kernel_rfl), ?_⟩
          | refine ⟨_, rfl, ?_⟩
          | fail
        rw [show frac 0 = [] from rfl, List.append_nil]; rfl
    · have pl := pad_len (k := 6) (b := r) (by decide) (by simpa using hr0)
      have ps := pad_some 6 r (by omega)
      unfold frac
      rw [if_neg z]
      clear ir
      generalize pad 6 r = P at *
      have sz := bs_size (49 :: P)
      have e9 : (bs (49 :: P)).extract ((1 : Int).toNat) (((bs (49 :: P)).size : Int)).toNat = bs (P.take 6) := by
        rw [Int.toNat_natCast, bs_extract, sz]; simp [pl]
      have sz7 : (bs (49 :: P)).size = 7 := by rw [sz]; simp [pl]
      have dq : (Lib.decDigits q).length ≤ 20 := dec_len (k := 19) (by rw [show (10 : Nat) ^ (19 + 1) = 100000000000000000000 by decide]; omega)
      by_cases y : q = 0
      · subst y
        have d0 : Lib.decDigits 0 = [48] := dec_small (by decide)
        rw [d0]
        repeat' first
          | refine brP.fD (by omega) ?_
          | refine .inl ⟨_, o, ?_⟩
          | refine .inl ⟨_, qu, ?_⟩
          | refine (pq).call ?_
          | refine (sv).call ?_
          | refine (sq).call ?_
          | refine (ng).call ?_
          | refine (sm).call ?_
          | refine (fi).call ?_
          | (apply Here.norm; (first | dsimp only [Env.putR, argEnv, pure1, newPtr, applyE, hset, List.length_cons, List.length_nil, List.length_append, List.set, List.cons_append, List.nil_append] | rfl); (first | dsimp only [Env.putR, argEnv, pure1, newPtr, applyE, hset, List.length_cons, List.length_nil, List.length_append, List.set, List.cons_append, List.nil_append] | rfl))
          | refine ⟨_, _, _, _, _, rfl, rfl, rfl, Fits.mk (by first | exact Nat.le_of_ble_eq_true rfl | (dsimp only; omega)), rfl, ?_⟩
          | refine ⟨_, _, _, _, _, rfl, Fits.mk (by first | exact Nat.le_of_ble_eq_true rfl | (dsimp only; omega)), _, rfl, ?_⟩
          | refine draw_go (C_ok W0) (by kernel_rfl) ?_
          | refine ⟨cpt_ok (by kernel_rfl), ?_⟩
          | refine ⟨SlB.mk (by first | omega | decide) (by first | omega | decide) (by first | omega | decide), ?_⟩
          | refine ⟨_, rfl, ?_⟩
          | fail
        refine loop_I (C_ok W0) (fun n : Nat => n ≤ 6 ∧ stripz (P.take n) = stripz P ∧ ∃ x ∈ P.take n, x ≠ 48) (fun n => [(6, .string (bs ([45, 48]))), (9, .string (bs (P.take n)))]) (fun _ => []) (fun n => n) 6 ⟨Nat.le_refl _, by rw [List.take_of_length_le (by omega)], by rw [List.take_of_length_le (by omega)]; exact ps⟩ ⟨_, rfl, ?_⟩ ?_
        · dsimp only [List.map]
          refine RT.ren [] rfl rfl ?_ ?_
          all_goals (repeat' first
            | exact trivial
            | exact LTo.nil
            | refine LTo.cons ?_ ?_
            | refine VTo.string ?_
            | fail)
          all_goals first
            | exact e9
            | rfl
        rintro n ⟨g1, g2, g3⟩
        dsimp only
        have n1 : 1 ≤ n := by
          rcases Nat.eq_zero_or_pos n with h | h
          · subst h; simp at g3
          · exact h
        obtain ⟨m, rfl⟩ : ∃ m, n = m + 1 := ⟨n - 1, by omega⟩
        have hm : m < P.length := by omega
        have es : P.take (m + 1) = P.take m ++ [P[m]] := by rw [List.take_add_one, List.getElem?_eq_getElem hm]; rfl
        have ls : (P.take (m + 1)).length = m + 1 := by rw [List.length_take]; omega
        have zs := bs_size (P.take (m + 1))
        have ts := bs_size ([45, 48])
        have tl : ([45, 48]).length ≤ 30 := by (try simp only [List.length_append, List.length_cons, List.length_nil]); omega
        have w1 : IntKind.i64.wrap (((bs (P.take (m + 1))).size : Int) - 1) = (m : Int) := by rw [zs, ls, wrap_in (by omega)]; omega
        have eb : byteAt (bs (P.take (m + 1))) (m : Int) = ((P[m]).toNat : Int) := by
          rw [byteAt_bs (by omega)]; simp
        rw [es, stripz_snoc] at g2
        by_cases h48 : P[m] = 48
        · rw [if_pos h48] at g2
          have e2 : byteAt (bs (P.take (m + 1))) (IntKind.i64.wrap (((bs (P.take (m + 1))).size : Int) - 1)) = 48 := by rw [w1, eb, h48]; rfl
          repeat' first
            | refine brP.tD (by omega) ?_
            | refine ⟨InB.mk (by omega) (by omega), ?_⟩
            | refine ⟨SlB.mk (by omega) (by omega) (by omega), ?_⟩
            | (apply Here.norm; (first | dsimp only [Env.putR, argEnv, pure1, newPtr, applyE, hset, List.length_cons, List.length_nil, List.length_append, List.set, List.cons_append, List.nil_append] | rfl); (first | dsimp only [Env.putR, argEnv, pure1, newPtr, applyE, hset, List.length_cons, List.length_nil, List.length_append, List.set, List.cons_append, List.nil_append] | rfl))
            | fail
          apply Again.mk m
          · refine ⟨by omega, g2, ?_⟩
            obtain ⟨x, hx, hx2⟩ := g3
            rw [es] at hx
            rcases List.mem_append.mp hx with hx | hx
            · exact ⟨x, hx, hx2⟩
            · rcases List.mem_singleton.mp hx with rfl; exact absurd h48 hx2
          · omega
          refine ⟨_, rfl, RT.of_eq ?_ rfl⟩
          have e5 : (bs (P.take (m + 1))).extract ((0 : Int)).toNat (IntKind.i64.wrap (((bs (P.take (m + 1))).size : Int) - 1)).toNat = bs (P.take m) := by
            rw [w1, Int.toNat_natCast, bs_extract]; simp [List.take_take]
          show _ = _
          rw [← e5]; rfl
        · have e2 : byteAt (bs (P.take (m + 1))) (IntKind.i64.wrap (((bs (P.take (m + 1))).size : Int) - 1)) ≠ 48 := by rw [w1, eb]; intro h; exact h48 (UInt8.toNat_inj.mp (by rw [show (48 : UInt8).toNat = 48 from rfl]; omega))
          rw [if_neg h48, ← es] at g2
          have zd : (⟨#[46]⟩ : ByteArray).size = 1 := rfl
          have ld : (⟨#[46]⟩ : ByteArray) = bs [46] := rfl
          repeat' first
            | refine brP.fD (by omega) ?_
            | refine ⟨InB.mk (by omega) (by omega), ?_⟩
            | refine ⟨by (try simp only [ByteArray.size_append]); omega, ?_⟩
            | (apply Here.norm; (first | dsimp only [Env.putR, argEnv, pure1, newPtr, applyE, hset, List.length_cons, List.length_nil, List.length_append, List.set, List.cons_append, List.nil_append] | rfl); (first | dsimp only [Env.putR, argEnv, pure1, newPtr, applyE, hset, List.length_cons, List.length_nil, List.length_append, List.set, List.cons_append, List.nil_append] | rfl))
            | fail
          refine congrArg Value.string ?_
          rw [ld, bs_app, bs_app, g2]; simp
      · have et : sgnL (-(q : Int)) ++ Lib.decDigits (mag (-(q : Int))).toNat = [45] ++ Lib.decDigits q := by
          unfold sgnL mag; rw [if_pos (by omega), if_pos (by omega), Int.neg_neg, Int.toNat_natCast]
        have sc2 : wcmp (-(q : Int)) 0 = -1 := by unfold wcmp; rw [if_neg (by omega), if_pos (by omega)]
        rw [et] at pq
        rw [sc2] at sq
        generalize Lib.decDigits q = D at *
        rw [show [45] ++ D = 45 :: D from rfl] at pq
        rw [show [45] ++ (D ++ 46 :: stripz P) = (45 :: D) ++ 46 :: stripz P from rfl]
        repeat' first
          | refine brP.fD (by omega) ?_
          | refine .inl ⟨_, o, ?_⟩
          | refine .inl ⟨_, qu, ?_⟩
          | refine (pq).call ?_
          | refine (sv).call ?_
          | refine (sq).call ?_
          | refine (ng).call ?_
          | refine (sm).call ?_
          | refine (fi).call ?_
          | (apply Here.norm; (first | dsimp only [Env.putR, argEnv, pure1, newPtr, applyE, hset, List.length_cons, List.length_nil, List.length_append, List.set, List.cons_append, List.nil_append] | rfl); (first | dsimp only [Env.putR, argEnv, pure1, newPtr, applyE, hset, List.length_cons, List.length_nil, List.length_append, List.set, List.cons_append, List.nil_append] | rfl))
          | refine ⟨_, _, _, _, _, rfl, rfl, rfl, Fits.mk (by first | exact Nat.le_of_ble_eq_true rfl | (dsimp only; omega)), rfl, ?_⟩
          | refine ⟨_, _, _, _, _, rfl, Fits.mk (by first | exact Nat.le_of_ble_eq_true rfl | (dsimp only; omega)), _, rfl, ?_⟩
          | refine draw_go (C_ok W0) (by kernel_rfl) ?_
          | refine ⟨cpt_ok (by kernel_rfl), ?_⟩
          | refine ⟨SlB.mk (by first | omega | decide) (by first | omega | decide) (by first | omega | decide), ?_⟩
          | refine ⟨_, rfl, ?_⟩
          | fail
        refine loop_I (C_ok W0) (fun n : Nat => n ≤ 6 ∧ stripz (P.take n) = stripz P ∧ ∃ x ∈ P.take n, x ≠ 48) (fun n => [(6, .string (bs (45 :: D))), (9, .string (bs (P.take n)))]) (fun _ => []) (fun n => n) 6 ⟨Nat.le_refl _, by rw [List.take_of_length_le (by omega)], by rw [List.take_of_length_le (by omega)]; exact ps⟩ ⟨_, rfl, ?_⟩ ?_
        · dsimp only [List.map]
          refine RT.ren [] rfl rfl ?_ ?_
          all_goals (repeat' first
            | exact trivial
            | exact LTo.nil
            | refine LTo.cons ?_ ?_
            | refine VTo.string ?_
            | (with_reducible rfl)
            | fail)
          all_goals first
            | exact e9
            | rfl
        rintro n ⟨g1, g2, g3⟩
        dsimp only
        have n1 : 1 ≤ n := by
          rcases Nat.eq_zero_or_pos n with h | h
          · subst h; simp at g3
          · exact h
        obtain ⟨m, rfl⟩ : ∃ m, n = m + 1 := ⟨n - 1, by omega⟩
        have hm : m < P.length := by omega
        have es : P.take (m + 1) = P.take m ++ [P[m]] := by rw [List.take_add_one, List.getElem?_eq_getElem hm]; rfl
        have ls : (P.take (m + 1)).length = m + 1 := by rw [List.length_take]; omega
        have zs := bs_size (P.take (m + 1))
        have ts := bs_size (45 :: D)
        have tl : (45 :: D).length ≤ 30 := by (try simp only [List.length_append, List.length_cons, List.length_nil]); omega
        have w1 : IntKind.i64.wrap (((bs (P.take (m + 1))).size : Int) - 1) = (m : Int) := by rw [zs, ls, wrap_in (by omega)]; omega
        have eb : byteAt (bs (P.take (m + 1))) (m : Int) = ((P[m]).toNat : Int) := by
          rw [byteAt_bs (by omega)]; simp
        rw [es, stripz_snoc] at g2
        by_cases h48 : P[m] = 48
        · rw [if_pos h48] at g2
          have e2 : byteAt (bs (P.take (m + 1))) (IntKind.i64.wrap (((bs (P.take (m + 1))).size : Int) - 1)) = 48 := by rw [w1, eb, h48]; rfl
          repeat' first
            | refine brP.tD (by omega) ?_
            | refine ⟨InB.mk (by omega) (by omega), ?_⟩
            | refine ⟨SlB.mk (by omega) (by omega) (by omega), ?_⟩
            | (apply Here.norm; (first | dsimp only [Env.putR, argEnv, pure1, newPtr, applyE, hset, List.length_cons, List.length_nil, List.length_append, List.set, List.cons_append, List.nil_append] | rfl); (first | dsimp only [Env.putR, argEnv, pure1, newPtr, applyE, hset, List.length_cons, List.length_nil, List.length_append, List.set, List.cons_append, List.nil_append] | rfl))
            | fail
          apply Again.mk m
          · refine ⟨by omega, g2, ?_⟩
            obtain ⟨x, hx, hx2⟩ := g3
            rw [es] at hx
            rcases List.mem_append.mp hx with hx | hx
            · exact ⟨x, hx, hx2⟩
            · rcases List.mem_singleton.mp hx with rfl; exact absurd h48 hx2
          · omega
          refine ⟨_, rfl, RT.of_eq ?_ rfl⟩
          have e5 : (bs (P.take (m + 1))).extract ((0 : Int)).toNat (IntKind.i64.wrap (((bs (P.take (m + 1))).size : Int) - 1)).toNat = bs (P.take m) := by
            rw [w1, Int.toNat_natCast, bs_extract]; simp [List.take_take]
          show _ = _
          rw [← e5]; rfl
        · have e2 : byteAt (bs (P.take (m + 1))) (IntKind.i64.wrap (((bs (P.take (m + 1))).size : Int) - 1)) ≠ 48 := by rw [w1, eb]; intro h; exact h48 (UInt8.toNat_inj.mp (by rw [show (48 : UInt8).toNat = 48 from rfl]; omega))
          rw [if_neg h48, ← es] at g2
          have zd : (⟨#[46]⟩ : ByteArray).size = 1 := rfl
          have ld : (⟨#[46]⟩ : ByteArray) = bs [46] := rfl
          repeat' first
            | refine brP.fD (by omega) ?_
            | refine ⟨InB.mk (by omega) (by omega), ?_⟩
            | refine ⟨by (try simp only [ByteArray.size_append]); omega, ?_⟩
            | (apply Here.norm; (first | dsimp only [Env.putR, argEnv, pure1, newPtr, applyE, hset, List.length_cons, List.length_nil, List.length_append, List.set, List.cons_append, List.nil_append] | rfl); (first | dsimp only [Env.putR, argEnv, pure1, newPtr, applyE, hset, List.length_cons, List.length_nil, List.length_append, List.set, List.cons_append, List.nil_append] | rfl))
            | fail
          refine congrArg Value.string ?_
          rw [ld, bs_app, bs_app, g2]; simp
  · have sc : wcmp v 0 = 0 ∨ wcmp v 0 = 1 := by unfold wcmp; split <;> (try split) <;> omega
    simp only [c, if_false] at qu ⊢
    have pq := wide_Print (W0 := W0) hT (q : Int) (by unfold R; omega) (by unfold mag; split <;> omega)
    have et : sgnL (q : Int) ++ Lib.decDigits (mag (q : Int)).toNat = Lib.decDigits q := by
      unfold sgnL mag; rw [if_neg (by omega), if_neg (by omega), Int.toNat_natCast]; rfl
    rw [et] at pq
    by_cases z : r = 0
    · subst z
      repeat' first
        | refine brP.fD (by omega) ?_
        | refine .inl ⟨_, o, ?_⟩
        | refine .inl ⟨_, qu, ?_⟩
        | refine (pq).call ?_
        | refine (sv).call ?_
        | refine (sm).call ?_
        | (apply Here.norm; (first | dsimp only [Env.putR, argEnv, pure1, newPtr, applyE, hset, List.length_cons, List.length_nil, List.length_append, List.set, List.cons_append, List.nil_append] | rfl); (first | dsimp only [Env.putR, argEnv, pure1, newPtr, applyE, hset, List.length_cons, List.length_nil, List.length_append, List.set, List.cons_append, List.nil_append] | rfl))
        | refine ⟨_, _, _, _, _, rfl, rfl, rfl, Fits.mk (by first | exact Nat.le_of_ble_eq_true rfl | (dsimp only; omega)), rfl, ?_⟩
        | refine ⟨_, _, _, _, _, rfl, Fits.mk (by first | exact Nat.le_of_ble_eq_true rfl | (dsimp only; omega)), _, rfl, ?_⟩
        | refine draw_go (C_ok W0) (by kernel_rfl) ?_
        | refine ⟨cpt_ok (by kernel_rfl), ?_⟩
        | refine ⟨_, rfl, ?_⟩
        | fail
      rw [show frac 0 = [] from rfl, List.append_nil]; rfl
    · have pl := pad_len (k := 6) (b := r) (by decide) (by simpa using hr0)
      have ps := pad_some 6 r (by omega)
      unfold frac
      rw [if_neg z]
      clear ir
      generalize pad 6 r = P at *
      have sz := bs_size (49 :: P)
      have e9 : (bs (49 :: P)).extract ((1 : Int).toNat) (((bs (49 :: P)).size : Int)).toNat = bs (P.take 6) := by
        rw [Int.toNat_natCast, bs_extract, sz]; simp [pl]
      have sz7 : (bs (49 :: P)).size = 7 := by rw [sz]; simp [pl]
      have dq : (Lib.decDigits q).length ≤ 20 := dec_len (k := 19) (by rw [show (10 : Nat) ^ (19 + 1) = 100000000000000000000 by decide]; omega)
      generalize Lib.decDigits q = D at *
      repeat' first
        | refine brP.fD (by omega) ?_
        | refine .inl ⟨_, o, ?_⟩
        | refine .inl ⟨_, qu, ?_⟩
        | refine (pq).call ?_
        | refine (sv).call ?_
        | refine (sm).call ?_
        | refine (fi).call ?_
        | (apply Here.norm; (first | dsimp only [Env.putR, argEnv, pure1, newPtr, applyE, hset, List.length_cons, List.length_nil, List.length_append, List.set, List.cons_append, List.nil_append] | rfl); (first | dsimp only [Env.putR, argEnv, pure1, newPtr, applyE, hset, List.length_cons, List.length_nil, List.length_append, List.set, List.cons_append, List.nil_append] | rfl))
        | refine ⟨_, _, _, _, _, rfl, rfl, rfl, Fits.mk (by first | exact Nat.le_of_ble_eq_true rfl | (dsimp only; omega)), rfl, ?_⟩
        | refine ⟨_, _, _, _, _, rfl, Fits.mk (by first | exact Nat.le_of_ble_eq_true rfl | (dsimp only; omega)), _, rfl, ?_⟩
        | refine draw_go (C_ok W0) (by kernel_rfl) ?_
        | refine ⟨cpt_ok (by kernel_rfl), ?_⟩
        | refine ⟨SlB.mk (by first | omega | decide) (by first | omega | decide) (by first | omega | decide), ?_⟩
        | refine ⟨_, rfl, ?_⟩
        | fail
      refine loop_I (C_ok W0) (fun n : Nat => n ≤ 6 ∧ stripz (P.take n) = stripz P ∧ ∃ x ∈ P.take n, x ≠ 48) (fun n => [(6, .string (bs (D))), (9, .string (bs (P.take n)))]) (fun _ => []) (fun n => n) 6 ⟨Nat.le_refl _, by rw [List.take_of_length_le (by omega)], by rw [List.take_of_length_le (by omega)]; exact ps⟩ ⟨_, rfl, ?_⟩ ?_
      · dsimp only [List.map]
        refine RT.ren [] rfl rfl ?_ ?_
        all_goals (repeat' first
          | exact trivial
          | exact LTo.nil
          | refine LTo.cons ?_ ?_
          | refine VTo.string ?_
          | (with_reducible rfl)
          | fail)
        all_goals first
          | exact e9
          | rfl
      rintro n ⟨g1, g2, g3⟩
      dsimp only
      have n1 : 1 ≤ n := by
        rcases Nat.eq_zero_or_pos n with h | h
        · subst h; simp at g3
        · exact h
      obtain ⟨m, rfl⟩ : ∃ m, n = m + 1 := ⟨n - 1, by omega⟩
      have hm : m < P.length := by omega
      have es : P.take (m + 1) = P.take m ++ [P[m]] := by rw [List.take_add_one, List.getElem?_eq_getElem hm]; rfl
      have ls : (P.take (m + 1)).length = m + 1 := by rw [List.length_take]; omega
      have zs := bs_size (P.take (m + 1))
      have ts := bs_size (D)
      have tl : (D).length ≤ 30 := by (try simp only [List.length_append, List.length_cons, List.length_nil]); omega
      have w1 : IntKind.i64.wrap (((bs (P.take (m + 1))).size : Int) - 1) = (m : Int) := by rw [zs, ls, wrap_in (by omega)]; omega
      have eb : byteAt (bs (P.take (m + 1))) (m : Int) = ((P[m]).toNat : Int) := by
        rw [byteAt_bs (by omega)]; simp
      rw [es, stripz_snoc] at g2
      by_cases h48 : P[m] = 48
      · rw [if_pos h48] at g2
        have e2 : byteAt (bs (P.take (m + 1))) (IntKind.i64.wrap (((bs (P.take (m + 1))).size : Int) - 1)) = 48 := by rw [w1, eb, h48]; rfl
        repeat' first
          | refine brP.tD (by omega) ?_
          | refine ⟨InB.mk (by omega) (by omega), ?_⟩
          | refine ⟨SlB.mk (by omega) (by omega) (by omega), ?_⟩
          | (apply Here.norm; (first | dsimp only [Env.putR, argEnv, pure1, newPtr, applyE, hset, List.length_cons, List.length_nil, List.length_append, List.set, List.cons_append, List.nil_append] | rfl); (first | dsimp only [Env.putR, argEnv, pure1, newPtr, applyE, hset, List.length_cons, List.length_nil, List.length_append, List.set, List.cons_append, List.nil_append] | rfl))
          | fail
        apply Again.mk m
        · refine ⟨by omega, g2, ?_⟩
          obtain ⟨x, hx, hx2⟩ := g3
          rw [es] at hx
          rcases List.mem_append.mp hx with hx | hx
          · exact ⟨x, hx, hx2⟩
          · rcases List.mem_singleton.mp hx with rfl; exact absurd h48 hx2
        · omega
        refine ⟨_, rfl, RT.of_eq ?_ rfl⟩
        have e5 : (bs (P.take (m + 1))).extract ((0 : Int)).toNat (IntKind.i64.wrap (((bs (P.take (m + 1))).size : Int) - 1)).toNat = bs (P.take m) := by
          rw [w1, Int.toNat_natCast, bs_extract]; simp [List.take_take]
        show _ = _
        rw [← e5]; rfl
      · have e2 : byteAt (bs (P.take (m + 1))) (IntKind.i64.wrap (((bs (P.take (m + 1))).size : Int) - 1)) ≠ 48 := by rw [w1, eb]; intro h; exact h48 (UInt8.toNat_inj.mp (by rw [show (48 : UInt8).toNat = 48 from rfl]; omega))
        rw [if_neg h48, ← es] at g2
        have zd : (⟨#[46]⟩ : ByteArray).size = 1 := rfl
        have ld : (⟨#[46]⟩ : ByteArray) = bs [46] := rfl
        repeat' first
          | refine brP.fD (by omega) ?_
          | refine ⟨InB.mk (by omega) (by omega), ?_⟩
          | refine ⟨by (try simp only [ByteArray.size_append]); omega, ?_⟩
          | (apply Here.norm; (first | dsimp only [Env.putR, argEnv, pure1, newPtr, applyE, hset, List.length_cons, List.length_nil, List.length_append, List.set, List.cons_append, List.nil_append] | rfl); (first | dsimp only [Env.putR, argEnv, pure1, newPtr, applyE, hset, List.length_cons, List.length_nil, List.length_append, List.set, List.cons_append, List.nil_append] | rfl))
          | fail
        refine congrArg Value.string ?_
        rw [ld, bs_app, bs_app, g2]; simp
theorem micro_Print (hT : Tens W0) (v : Int) (hv : Hi v) : PureF (C W0) I.micro_Print [.int .i64 v] (.string (bs (showW v))) := by
  have o := wide_Of (W0 := W0) v hv
  have s := micro_Show (W0 := W0) hT v hv
  refine PureF.E (CallP.of_body (C_ok W0) B.micro_Print rfl rfl rfl ?_)
  repeat' first
    | refine (o).call ?_
    | refine (s).call ?_
    | (apply Here.norm; (first | dsimp only [Env.putR, argEnv, pure1, newPtr, applyE, hset, List.length_cons, List.length_nil, List.length_append, List.set, List.cons_append, List.nil_append] | rfl); (first | dsimp only [Env.putR, argEnv, pure1, newPtr, applyE, hset, List.length_cons, List.length_nil, List.length_append, List.set, List.cons_append, List.nil_append] | rfl))
    | fail
  rfl
end Go.Proofs.YtioahngbfdfcaaaGreatDoor
