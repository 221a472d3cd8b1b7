import Derived.Test.YtioahngbfdfcaaaDoorKRv
set_option linter.unusedVariables false
set_option linter.unusedSimpArgs false
namespace Go.Proofs.YtioahngbfdfcaaaDoor
open Go Go.Den Go.RowKit
variable {W0 : World}
/-! tumblerref03.Clean: the walk -/
theorem ref3_blank (r : Int) : PureF (C W0) I.tumblerref03_blank [.int .i32 r] (.bool (blankR r)) := by
  refine PureF.E (CallP.of_body (C_ok W0) B.tumblerref03_blank rfl rfl rfl ?_)
  unfold blankR
  repeat' first
    | (apply Here.norm; (first | dsimp only [Env.putR, argEnv, pure1, newPtr, applyE, hset, List.length_cons, List.length_nil, List.length_append, List.set, List.cons_append, List.nil_append] | rfl); (first | dsimp only [Env.putR, argEnv, pure1, newPtr, applyE, hset, List.length_cons, List.length_nil, List.length_append, List.set, List.cons_append, List.nil_append] | rfl))
    | refine brP.introD (fun h => ?_) (fun h => ?_)
    | fail
  all_goals first
    | rfl
    | (refine congrArg Value.bool ?_; simp [*]; done)
    | (refine congrArg Value.bool ?_; simp [*]; omega)
theorem u8_of {r : Int} (h0 : 0 ≤ r) (h1 : r < 128) : IntKind.u8.wrap r = ((UInt8.ofNat r.toNat).toNat : Int) := by
  rw [show IntKind.u8.wrap r = r % 256 by simp [IntKind.wrap, IntKind.bits, IntKind.signed], UInt8.toNat_ofNat']; omega
theorem nb_low {c : Int} (h : nb c = true) : 45 ≤ c := by
  unfold nb at h
  simp only [Bool.or_eq_true, decide_eq_true_eq] at h
  omega
theorem byteV_at {g : List UInt8} {i : Nat} (h : i < g.length) : (byteV g)[((i : Int).toNat) * 1]? = some (.int .u8 ((g[i]'h).toNat : Int)) := by unfold byteV; simp [h]
theorem dd_len : ∀ (t o : List UInt8), (t.foldl dstep o).length ≤ o.length + t.length
  | [], o => by simp
  | c :: t, o => by
    have := dd_len t (dstep o c)
    have h : (dstep o c).length ≤ o.length + 1 := by unfold dstep; split <;> simp
    rw [List.foldl_cons, List.length_cons]; omega
attribute [local irreducible] nb blankR Utf8.decode r1 stepC gathP okName
set_option maxRecDepth 20000 in
set_option maxHeartbeats 16000000 in
theorem ref3_Clean (l : List UInt8) (hl : l.length ≤ 1000000) : PureF (C W0) I.tumblerref03_Clean [.string (bs l)] (.tuple #[.string (bs (cleanV l).1), .bool (cleanV l).2]) := by
  have hsz := bs_size l
  have nm := fun c => ref3_Byte (W0 := W0) c
  have stc : ∀ last r, stepC last r = if blankR r = true then (if last = true then [] else [95]) else if r = 47 then [45] else if r = 46 ∨ (r < 128 ∧ nb r = true) then [UInt8.ofNat r.toNat] else [] := fun last r => by unfold stepC; rfl
  have gl := gath_len l
  refine PureF.E (CallP.of_body (C_ok W0) B.tumblerref03_Clean rfl rfl rfl ?_)
  repeat' first
    | (apply Here.norm; (first | dsimp only [Env.putR, argEnv, pure1, newPtr, applyE, hset, List.length_cons, List.length_nil, List.length_append, List.set, List.cons_append, List.nil_append] | rfl); (first | dsimp only [Env.putR, argEnv, pure1, newPtr, applyE, hset, List.length_cons, List.length_nil, List.length_append, List.set, List.cons_append, List.nil_append] | rfl))
    | fail
  refine loop_I (C_ok W0) (fun p : Nat × Nat × Bool × List UInt8 => p.2.1 ≤ l.length ∧ l.length - p.2.1 ≤ p.1 ∧ p.2.2.2.length ≤ p.2.1 ∧ gathP l p.1 p.2.1 p.2.2.1 p.2.2.2 = gath l)
    (fun p => [(0, .string (bs l)), (2, .string ⟨#[]⟩), (3, .bool false), (4, bsV 0 p.2.2.2), (5, .bool p.2.2.1), (6, .int .i64 p.2.1)])
    (fun p => [bbV p.2.2.2]) (fun p => l.length - p.2.1) (l.length, 0, false, [])
    ⟨Nat.zero_le _, Nat.le_refl _, Nat.le_refl _, rfl⟩ ⟨_, rfl, RT.trans (.of_eq rfl rfl) .pad⟩ ?_
  rintro ⟨n, pos, last, out⟩ ⟨g1, g2, g3, g4⟩
  dsimp only at g1 g2 g3 g4 ⊢
  by_cases hp : pos < l.length
  · have hw := dec_wide hp
    have hfit := dec_fit hp
    have ru := ref3_rune1 (W0 := W0) (l.drop pos) (by rw [List.length_drop]; omega) (by rw [List.length_drop]; omega)
    have e1 : (bs l).extract ((pos : Int)).toNat (((bs l).size : Int)).toNat = bs (l.drop pos) := by
      rw [Int.toNat_natCast, Int.toNat_natCast, bs_extract, hsz, List.take_of_length_le (by rw [List.length_drop]; exact Nat.le_refl _)]
    rw [← e1] at ru
    obtain ⟨s1, s2, s3⟩ := step_ref last l pos
    rw [gathP_step hp g2, ← s1, ← s2] at g4
    unfold r1V at ru
    rw [s3] at ru
    clear s1 s2 s3
    generalize (Utf8.decode (bs l) pos).2 = w at *
    generalize (r1 (l.drop pos)).1 = r at *
    have bl := ref3_blank (W0 := W0) r
    have w1 : IntKind.i64.wrap ((pos : Int) + (w : Int)) = ((pos + w : Nat) : Int) := by rw [wrap_in (by omega)]; omega
    rw [stc] at g4
    cases hb : blankR r with
    | true =>
      rw [hb] at bl g4
      rw [if_pos rfl] at g4
      cases last with
      | true =>
        rw [if_pos rfl, List.append_nil] at g4
        repeat' first
          | refine brP.tD (by omega) ?_
          | refine (ru).call ?_
          | refine (bl).call ?_
          | (apply Here.norm; (first | dsimp only [Env.putR, argEnv, pure1, newPtr, applyE, hset, List.length_cons, List.length_nil, List.length_append, List.set, List.cons_append, List.nil_append] | rfl); (first | dsimp only [Env.putR, argEnv, pure1, newPtr, applyE, hset, List.length_cons, List.length_nil, List.length_append, List.set, List.cons_append, List.nil_append] | rfl))
          | refine ⟨SlB.mk (by first | omega | decide) (by first | omega | decide) (by first | omega | decide), ?_⟩
          | refine ⟨_, rfl, ?_⟩
          | fail
        apply Again.mk (n - 1, pos + w, true, out)
        · exact ⟨by dsimp only; omega, by dsimp only; omega, by dsimp only; omega, g4⟩
        · dsimp only; omega
        exact ⟨_, rfl, RT.of_eq (by rw [w1]; rfl) rfl⟩
      | false =>
        rw [if_neg (by simp)] at g4
        cases out with
        | nil =>
          repeat' first
            | refine brP.tD (by omega) ?_
            | refine (ru).call ?_
            | refine (bl).call ?_
            | (apply Here.norm; (first | dsimp only [Env.putR, argEnv, pure1, newPtr, applyE, hset, List.length_cons, List.length_nil, List.length_append, List.set, List.cons_append, List.nil_append] | rfl); (first | dsimp only [Env.putR, argEnv, pure1, newPtr, applyE, hset, List.length_cons, List.length_nil, List.length_append, List.set, List.cons_append, List.nil_append] | rfl))
            | refine ⟨SlB.mk (by first | omega | decide) (by first | omega | decide) (by first | omega | decide), ?_⟩
            | refine ⟨trivial, ?_⟩
            | refine ⟨by decide, rfl, by decide, ?_⟩
            | refine .inr ⟨by decide, _, _, _, _, _, rfl, rfl, Fits.mk (by first | exact Nat.le_of_ble_eq_true rfl | omega), ?_⟩
            | refine .inr ⟨by decide, by decide, Room.mk (by decide) (by decide), ?_⟩
            | refine ⟨_, rfl, ?_⟩
            | fail
          apply Again.mk (n - 1, pos + w, true, [] ++ [95])
          · exact ⟨by dsimp only; omega, by dsimp only; omega, by dsimp only; simp only [List.length_append, List.length_cons, List.length_nil]; omega, g4⟩
          · dsimp only; omega
          refine ⟨_, rfl, ?_⟩
          dsimp only [List.map]
          rw [bsV_snoc, bbV_snoc]
          refine RT.ren [2] rfl rfl ⟨⟨_, rfl, BTo.cells (fun z => z) (.cons (VTo.int rfl) .nil), (fun z => by cases z)⟩, trivial⟩ ?_
          all_goals (repeat' first
            | exact LTo.nil
            | exact VTo.slice (by decide)
            | refine LTo.cons ?_ ?_
            | refine VTo.int ?_
            | refine VTo.bool ?_
            | refine VTo.string ?_
            | (with_reducible rfl)
            | fail)
          all_goals first
            | exact w1
            | rfl
        | cons x t =>
          have hrl : t.length + 1 ≤ pos := g3
          have hol : (byteV (x :: t)).length = t.length + 1 := by rw [byteV_length]; rfl
          repeat' first
            | refine brP.tD (by omega) ?_
            | refine (ru).call ?_
            | refine (bl).call ?_
            | (apply Here.norm; (first | dsimp only [Env.putR, argEnv, pure1, newPtr, applyE, hset, List.length_cons, List.length_nil, List.length_append, List.set, List.cons_append, List.nil_append] | rfl); (first | dsimp only [Env.putR, argEnv, pure1, newPtr, applyE, hset, List.length_cons, List.length_nil, List.length_append, List.set, List.cons_append, List.nil_append] | rfl))
            | refine ⟨SlB.mk (by first | omega | decide) (by first | omega | decide) (by first | omega | decide), ?_⟩
            | refine ⟨trivial, ?_⟩
            | refine ⟨by decide, rfl, by decide, ?_⟩
            | refine .inr ⟨by decide, _, _, _, _, _, rfl, rfl, Fits.mk (by first | exact Nat.le_of_ble_eq_true rfl | omega), ?_⟩
            | refine .inr ⟨by decide, _, _, _, _, _, rfl, rfl, Room.mk (by omega) (by omega), .inr (.inr ⟨(by omega), rfl, rfl, rfl, (by first | omega | (simp; done) | (simp; omega)), (by omega), rfl, ?_⟩)⟩
            | refine ⟨_, rfl, ?_⟩
            | fail
          apply Again.mk (n - 1, pos + w, true, (x :: t) ++ [95])
          · exact ⟨by dsimp only; omega, by dsimp only; omega, by dsimp only; simp only [List.length_append, List.length_cons, List.length_nil]; omega, g4⟩
          · dsimp only; omega
          refine ⟨_, rfl, ?_⟩
          dsimp only [List.map]
          rw [bsV_snoc, bbV_snoc]
          refine RT.ren [2] rfl rfl ⟨⟨_, rfl, BTo.cells (fun z => z) (LTo.n (bytes_snoc (x := 95) rfl rfl)), (fun z => by cases z)⟩, trivial⟩ ?_
          all_goals (repeat' first
            | exact LTo.nil
            | exact VTo.slice (by decide)
            | refine LTo.cons ?_ ?_
            | refine VTo.int ?_
            | refine VTo.bool ?_
            | refine VTo.string ?_
            | (with_reducible rfl)
            | fail)
          all_goals first
            | exact w1
            | rfl
    | false =>
      rw [hb] at bl g4
      rw [if_neg (by simp)] at g4
      by_cases k47 : r = 47
      · rw [if_pos k47] at g4
        cases out with
        | nil =>
          repeat' first
            | refine brP.tD (by omega) ?_
            | refine (ru).call ?_
            | refine (bl).call ?_
            | (apply Here.norm; (first | dsimp only [Env.putR, argEnv, pure1, newPtr, applyE, hset, List.length_cons, List.length_nil, List.length_append, List.set, List.cons_append, List.nil_append] | rfl); (first | dsimp only [Env.putR, argEnv, pure1, newPtr, applyE, hset, List.length_cons, List.length_nil, List.length_append, List.set, List.cons_append, List.nil_append] | rfl))
            | refine ⟨SlB.mk (by first | omega | decide) (by first | omega | decide) (by first | omega | decide), ?_⟩
            | refine ⟨trivial, ?_⟩
            | refine ⟨by decide, rfl, by decide, ?_⟩
            | refine .inr ⟨by decide, _, _, _, _, _, rfl, rfl, Fits.mk (by first | exact Nat.le_of_ble_eq_true rfl | omega), ?_⟩
            | refine .inr ⟨by decide, by decide, Room.mk (by decide) (by decide), ?_⟩
            | refine ⟨_, rfl, ?_⟩
            | fail
          apply Again.mk (n - 1, pos + w, false, [] ++ [45])
          · exact ⟨by dsimp only; omega, by dsimp only; omega, by dsimp only; simp only [List.length_append, List.length_cons, List.length_nil]; omega, g4⟩
          · dsimp only; omega
          refine ⟨_, rfl, ?_⟩
          dsimp only [List.map]
          rw [bsV_snoc, bbV_snoc]
          refine RT.ren [2] rfl rfl ⟨⟨_, rfl, BTo.cells (fun z => z) (.cons (VTo.int rfl) .nil), (fun z => by cases z)⟩, trivial⟩ ?_
          all_goals (repeat' first
            | exact LTo.nil
            | exact VTo.slice (by decide)
            | refine LTo.cons ?_ ?_
            | refine VTo.int ?_
            | refine VTo.bool ?_
            | refine VTo.string ?_
            | (with_reducible rfl)
            | fail)
          all_goals first
            | exact w1
            | rfl
        | cons x t =>
          have hrl : t.length + 1 ≤ pos := g3
          have hol : (byteV (x :: t)).length = t.length + 1 := by rw [byteV_length]; rfl
          repeat' first
            | refine brP.tD (by omega) ?_
            | refine (ru).call ?_
            | refine (bl).call ?_
            | (apply Here.norm; (first | dsimp only [Env.putR, argEnv, pure1, newPtr, applyE, hset, List.length_cons, List.length_nil, List.length_append, List.set, List.cons_append, List.nil_append] | rfl); (first | dsimp only [Env.putR, argEnv, pure1, newPtr, applyE, hset, List.length_cons, List.length_nil, List.length_append, List.set, List.cons_append, List.nil_append] | rfl))
            | refine ⟨SlB.mk (by first | omega | decide) (by first | omega | decide) (by first | omega | decide), ?_⟩
            | refine ⟨trivial, ?_⟩
            | refine ⟨by decide, rfl, by decide, ?_⟩
            | refine .inr ⟨by decide, _, _, _, _, _, rfl, rfl, Fits.mk (by first | exact Nat.le_of_ble_eq_true rfl | omega), ?_⟩
            | refine .inr ⟨by decide, _, _, _, _, _, rfl, rfl, Room.mk (by omega) (by omega), .inr (.inr ⟨(by omega), rfl, rfl, rfl, (by first | omega | (simp; done) | (simp; omega)), (by omega), rfl, ?_⟩)⟩
            | refine ⟨_, rfl, ?_⟩
            | fail
          apply Again.mk (n - 1, pos + w, false, (x :: t) ++ [45])
          · exact ⟨by dsimp only; omega, by dsimp only; omega, by dsimp only; simp only [List.length_append, List.length_cons, List.length_nil]; omega, g4⟩
          · dsimp only; omega
          refine ⟨_, rfl, ?_⟩
          dsimp only [List.map]
          rw [bsV_snoc, bbV_snoc]
          refine RT.ren [2] rfl rfl ⟨⟨_, rfl, BTo.cells (fun z => z) (LTo.n (bytes_snoc (x := 45) rfl rfl)), (fun z => by cases z)⟩, trivial⟩ ?_
          all_goals (repeat' first
            | exact LTo.nil
            | exact VTo.slice (by decide)
            | refine LTo.cons ?_ ?_
            | refine VTo.int ?_
            | refine VTo.bool ?_
            | refine VTo.string ?_
            | (with_reducible rfl)
            | fail)
          all_goals first
            | exact w1
            | rfl
      · rw [if_neg k47] at g4
        by_cases k46 : r = 46
        · have ev := u8_of (r := r) (by omega) (by omega)
          rw [if_pos (.inl k46)] at g4
          cases out with
          | nil =>
            repeat' first
              | refine brP.tD (by omega) ?_
              | refine brP.fD (by omega) ?_
              | refine (ru).call ?_
              | refine (bl).call ?_
              | (apply Here.norm; (first | dsimp only [Env.putR, argEnv, pure1, newPtr, applyE, hset, List.length_cons, List.length_nil, List.length_append, List.set, List.cons_append, List.nil_append] | rfl); (first | dsimp only [Env.putR, argEnv, pure1, newPtr, applyE, hset, List.length_cons, List.length_nil, List.length_append, List.set, List.cons_append, List.nil_append] | rfl))
              | refine ⟨SlB.mk (by first | omega | decide) (by first | omega | decide) (by first | omega | decide), ?_⟩
              | refine ⟨trivial, ?_⟩
              | refine ⟨by decide, rfl, by decide, ?_⟩
              | refine .inr ⟨by decide, _, _, _, _, _, rfl, rfl, Fits.mk (by first | exact Nat.le_of_ble_eq_true rfl | omega), ?_⟩
              | refine .inr ⟨by decide, by decide, Room.mk (by decide) (by decide), ?_⟩
              | refine ⟨_, rfl, ?_⟩
              | fail
            apply Again.mk (n - 1, pos + w, false, [] ++ [UInt8.ofNat r.toNat])
            · exact ⟨by dsimp only; omega, by dsimp only; omega, by dsimp only; simp only [List.length_append, List.length_cons, List.length_nil]; omega, g4⟩
            · dsimp only; omega
            refine ⟨_, rfl, ?_⟩
            dsimp only [List.map]
            rw [bsV_snoc, bbV_snoc]
            refine RT.ren [2] rfl rfl ⟨⟨_, rfl, BTo.cells (fun z => z) (.cons (VTo.int ev) .nil), (fun z => by cases z)⟩, trivial⟩ ?_
            all_goals (repeat' first
              | exact LTo.nil
              | exact VTo.slice (by decide)
              | refine LTo.cons ?_ ?_
              | refine VTo.int ?_
              | refine VTo.bool ?_
              | refine VTo.string ?_
              | (with_reducible rfl)
              | fail)
            all_goals first
              | exact w1
              | rfl
          | cons x t =>
            have hrl : t.length + 1 ≤ pos := g3
            have hol : (byteV (x :: t)).length = t.length + 1 := by rw [byteV_length]; rfl
            repeat' first
              | refine brP.tD (by omega) ?_
              | refine brP.fD (by omega) ?_
              | refine (ru).call ?_
              | refine (bl).call ?_
              | (apply Here.norm; (first | dsimp only [Env.putR, argEnv, pure1, newPtr, applyE, hset, List.length_cons, List.length_nil, List.length_append, List.set, List.cons_append, List.nil_append] | rfl); (first | dsimp only [Env.putR, argEnv, pure1, newPtr, applyE, hset, List.length_cons, List.length_nil, List.length_append, List.set, List.cons_append, List.nil_append] | rfl))
              | refine ⟨SlB.mk (by first | omega | decide) (by first | omega | decide) (by first | omega | decide), ?_⟩
              | refine ⟨trivial, ?_⟩
              | refine ⟨by decide, rfl, by decide, ?_⟩
              | refine .inr ⟨by decide, _, _, _, _, _, rfl, rfl, Fits.mk (by first | exact Nat.le_of_ble_eq_true rfl | omega), ?_⟩
              | refine .inr ⟨by decide, _, _, _, _, _, rfl, rfl, Room.mk (by omega) (by omega), .inr (.inr ⟨(by omega), rfl, rfl, rfl, (by first | omega | (simp; done) | (simp; omega)), (by omega), rfl, ?_⟩)⟩
              | refine ⟨_, rfl, ?_⟩
              | fail
            apply Again.mk (n - 1, pos + w, false, (x :: t) ++ [UInt8.ofNat r.toNat])
            · exact ⟨by dsimp only; omega, by dsimp only; omega, by dsimp only; simp only [List.length_append, List.length_cons, List.length_nil]; omega, g4⟩
            · dsimp only; omega
            refine ⟨_, rfl, ?_⟩
            dsimp only [List.map]
            rw [bsV_snoc, bbV_snoc]
            refine RT.ren [2] rfl rfl ⟨⟨_, rfl, BTo.cells (fun z => z) (LTo.n (bytes_snoc (x := UInt8.ofNat r.toNat) rfl ev)), (fun z => by cases z)⟩, trivial⟩ ?_
            all_goals (repeat' first
              | exact LTo.nil
              | exact VTo.slice (by decide)
              | refine LTo.cons ?_ ?_
              | refine VTo.int ?_
              | refine VTo.bool ?_
              | refine VTo.string ?_
              | (with_reducible rfl)
              | fail)
            all_goals first
              | exact w1
              | rfl
        · by_cases kr : 0 ≤ r ∧ r < 128
          · obtain ⟨kr0, kr1⟩ := kr
            have ev := u8_of kr0 kr1
            have nm := nm (IntKind.u8.wrap r)
            have ew : IntKind.u8.wrap r = r := by rw [show IntKind.u8.wrap r = r % 256 by simp [IntKind.wrap, IntKind.bits, IntKind.signed]]; omega
            rw [show nb (IntKind.u8.wrap r) = nb r by rw [ew]] at nm
            cases hn : nb r with
            | true =>
              rw [hn] at nm
              rw [if_pos (.inr ⟨kr1, hn⟩)] at g4
              cases out with
              | nil =>
                repeat' first
                  | refine brP.tD (by omega) ?_
                  | refine brP.fD (by omega) ?_
                  | refine (ru).call ?_
                  | refine (bl).call ?_
                  | refine (nm).call ?_
                  | (apply Here.norm; (first | dsimp only [Env.putR, argEnv, pure1, newPtr, applyE, hset, List.length_cons, List.length_nil, List.length_append, List.set, List.cons_append, List.nil_append] | rfl); (first | dsimp only [Env.putR, argEnv, pure1, newPtr, applyE, hset, List.length_cons, List.length_nil, List.length_append, List.set, List.cons_append, List.nil_append] | rfl))
                  | refine ⟨SlB.mk (by first | omega | decide) (by first | omega | decide) (by first | omega | decide), ?_⟩
                  | refine ⟨trivial, ?_⟩
                  | refine ⟨by decide, rfl, by decide, ?_⟩
                  | refine .inr ⟨by decide, _, _, _, _, _, rfl, rfl, Fits.mk (by first | exact Nat.le_of_ble_eq_true rfl | omega), ?_⟩
                  | refine .inr ⟨by decide, by decide, Room.mk (by decide) (by decide), ?_⟩
                  | refine ⟨_, rfl, ?_⟩
                  | fail
                apply Again.mk (n - 1, pos + w, false, [] ++ [UInt8.ofNat r.toNat])
                · exact ⟨by dsimp only; omega, by dsimp only; omega, by dsimp only; simp only [List.length_append, List.length_cons, List.length_nil]; omega, g4⟩
                · dsimp only; omega
                refine ⟨_, rfl, ?_⟩
                dsimp only [List.map]
                rw [bsV_snoc, bbV_snoc]
                refine RT.ren [2] rfl rfl ⟨⟨_, rfl, BTo.cells (fun z => z) (.cons (VTo.int ev) .nil), (fun z => by cases z)⟩, trivial⟩ ?_
                all_goals (repeat' first
                  | exact LTo.nil
                  | exact VTo.slice (by decide)
                  | refine LTo.cons ?_ ?_
                  | refine VTo.int ?_
                  | refine VTo.bool ?_
                  | refine VTo.string ?_
                  | (with_reducible rfl)
                  | fail)
                all_goals first
                  | exact w1
                  | rfl
              | cons x t =>
                have hrl : t.length + 1 ≤ pos := g3
                have hol : (byteV (x :: t)).length = t.length + 1 := by rw [byteV_length]; rfl
                repeat' first
                  | refine brP.tD (by omega) ?_
                  | refine brP.fD (by omega) ?_
                  | refine (ru).call ?_
                  | refine (bl).call ?_
                  | refine (nm).call ?_
                  | (apply Here.norm; (first | dsimp only [Env.putR, argEnv, pure1, newPtr, applyE, hset, List.length_cons, List.length_nil, List.length_append, List.set, List.cons_append, List.nil_append] | rfl); (first | dsimp only [Env.putR, argEnv, pure1, newPtr, applyE, hset, List.length_cons, List.length_nil, List.length_append, List.set, List.cons_append, List.nil_append] | rfl))
                  | refine ⟨SlB.mk (by first | omega | decide) (by first | omega | decide) (by first | omega | decide), ?_⟩
                  | refine ⟨trivial, ?_⟩
                  | refine ⟨by decide, rfl, by decide, ?_⟩
                  | refine .inr ⟨by decide, _, _, _, _, _, rfl, rfl, Fits.mk (by first | exact Nat.le_of_ble_eq_true rfl | omega), ?_⟩
                  | refine .inr ⟨by decide, _, _, _, _, _, rfl, rfl, Room.mk (by omega) (by omega), .inr (.inr ⟨(by omega), rfl, rfl, rfl, (by first | omega | (simp; done) | (simp; omega)), (by omega), rfl, ?_⟩)⟩
                  | refine ⟨_, rfl, ?_⟩
                  | fail
                apply Again.mk (n - 1, pos + w, false, (x :: t) ++ [UInt8.ofNat r.toNat])
                · exact ⟨by dsimp only; omega, by dsimp only; omega, by dsimp only; simp only [List.length_append, List.length_cons, List.length_nil]; omega, g4⟩
                · dsimp only; omega
                refine ⟨_, rfl, ?_⟩
                dsimp only [List.map]
                rw [bsV_snoc, bbV_snoc]
                refine RT.ren [2] rfl rfl ⟨⟨_, rfl, BTo.cells (fun z => z) (LTo.n (bytes_snoc (x := UInt8.ofNat r.toNat) rfl ev)), (fun z => by cases z)⟩, trivial⟩ ?_
                all_goals (repeat' first
                  | exact LTo.nil
                  | exact VTo.slice (by decide)
                  | refine LTo.cons ?_ ?_
                  | refine VTo.int ?_
                  | refine VTo.bool ?_
                  | refine VTo.string ?_
                  | (with_reducible rfl)
                  | fail)
                all_goals first
                  | exact w1
                  | rfl
            | false =>
              rw [hn] at nm
              rw [if_neg (by rintro (z | ⟨_, z⟩); exact k46 z; rw [hn] at z; cases z), List.append_nil] at g4
              repeat' first
                | refine brP.tD (by omega) ?_
                | refine brP.fD (by omega) ?_
                | refine (ru).call ?_
                | refine (bl).call ?_
                | refine (nm).call ?_
                | (apply Here.norm; (first | dsimp only [Env.putR, argEnv, pure1, newPtr, applyE, hset, List.length_cons, List.length_nil, List.length_append, List.set, List.cons_append, List.nil_append] | rfl); (first | dsimp only [Env.putR, argEnv, pure1, newPtr, applyE, hset, List.length_cons, List.length_nil, List.length_append, List.set, List.cons_append, List.nil_append] | rfl))
                | refine ⟨SlB.mk (by first | omega | decide) (by first | omega | decide) (by first | omega | decide), ?_⟩
                | refine ⟨_, rfl, ?_⟩
                | fail
              apply Again.mk (n - 1, pos + w, false, out)
              · exact ⟨by dsimp only; omega, by dsimp only; omega, by dsimp only; omega, g4⟩
              · dsimp only; omega
              exact ⟨_, rfl, RT.of_eq (by rw [w1]; rfl) rfl⟩
          · have hn : ¬ (r = 46 ∨ (r < 128 ∧ nb r = true)) := by
              rintro (z | ⟨z1, z2⟩)
              · exact k46 z
              · have := nb_low z2; omega
            rw [if_neg hn, List.append_nil] at g4
            by_cases k0 : 0 ≤ r
            ·
              repeat' first
                | refine brP.tD (by omega) ?_
                | refine brP.fD (by omega) ?_
                | refine (ru).call ?_
                | refine (bl).call ?_
                | (apply Here.norm; (first | dsimp only [Env.putR, argEnv, pure1, newPtr, applyE, hset, List.length_cons, List.length_nil, List.length_append, List.set, List.cons_append, List.nil_append] | rfl); (first | dsimp only [Env.putR, argEnv, pure1, newPtr, applyE, hset, List.length_cons, List.length_nil, List.length_append, List.set, List.cons_append, List.nil_append] | rfl))
                | refine ⟨SlB.mk (by first | omega | decide) (by first | omega | decide) (by first | omega | decide), ?_⟩
                | refine ⟨_, rfl, ?_⟩
                | fail
              apply Again.mk (n - 1, pos + w, false, out)
              · exact ⟨by dsimp only; omega, by dsimp only; omega, by dsimp only; omega, g4⟩
              · dsimp only; omega
              exact ⟨_, rfl, RT.of_eq (by rw [w1]; rfl) rfl⟩
            ·
              repeat' first
                | refine brP.tD (by omega) ?_
                | refine brP.fD (by omega) ?_
                | refine (ru).call ?_
                | refine (bl).call ?_
                | (apply Here.norm; (first | dsimp only [Env.putR, argEnv, pure1, newPtr, applyE, hset, List.length_cons, List.length_nil, List.length_append, List.set, List.cons_append, List.nil_append] | rfl); (first | dsimp only [Env.putR, argEnv, pure1, newPtr, applyE, hset, List.length_cons, List.length_nil, List.length_append, List.set, List.cons_append, List.nil_append] | rfl))
                | refine ⟨SlB.mk (by first | omega | decide) (by first | omega | decide) (by first | omega | decide), ?_⟩
                | refine ⟨_, rfl, ?_⟩
                | fail
              apply Again.mk (n - 1, pos + w, false, out)
              · exact ⟨by dsimp only; omega, by dsimp only; omega, by dsimp only; omega, g4⟩
              · dsimp only; omega
              exact ⟨_, rfl, RT.of_eq (by rw [w1]; rfl) rfl⟩
  · rw [gathP_end hp] at g4
    have key : strip1 (out.foldl dstep []) = cleanL l := by rw [g4]; exact clean_dd l
    have ol : out.length ≤ 1000000 := by rw [g4]; omega
    clear g4 g3 g2
    have fin : ∀ Q, cleanL l = Q → cleanV l = if okName Q = true then (Q, true) else ([], false) := fun Q h => by unfold cleanV; rw [h]
    have cl2 := cleanL_len l
    cases out with
    | nil =>
      repeat' first
        | refine brP.fD (by omega) ?_
        | (apply Here.norm; (first | dsimp only [Env.putR, argEnv, pure1, newPtr, applyE, hset, List.length_cons, List.length_nil, List.length_append, List.set, List.cons_append, List.nil_append] | rfl); (first | dsimp only [Env.putR, argEnv, pure1, newPtr, applyE, hset, List.length_cons, List.length_nil, List.length_append, List.set, List.cons_append, List.nil_append] | rfl))
        | fail
      refine loop_I (C_ok W0) (fun q : Nat × List UInt8 => q.1 ≤ (([] : List UInt8)).length ∧ q.2.length ≤ q.1 ∧ q.2 = ((([] : List UInt8)).take q.1).foldl dstep []) (fun q => [(2, .string ⟨#[]⟩), (3, .bool false), (4, LV (byteV (([] : List UInt8))) (([] : List UInt8)).length), (9, bsV 0 q.2), (10, .int .i64 q.1)]) (fun q => [bbV q.2]) (fun q => (([] : List UInt8)).length - q.1) (0, [])
        ⟨Nat.zero_le _, Nat.le_refl _, rfl⟩ ⟨_, rfl, ?_⟩ ?_
      · dsimp only [List.map]
        show RT (C W0).W0 0 _ _ _ (([] : AHeap) ++ [ABlk.dead])
        refine RT.trans ?_ .pad
        refine RT.ren [] rfl rfl ?_ ?_
        all_goals (repeat' first
          | exact trivial
          | exact LTo.nil
          | exact VTo.emptyN _
          | refine LTo.cons ?_ ?_
          | refine VTo.int ?_
          | refine VTo.bool ?_
          | refine VTo.string ?_
          | (with_reducible rfl)
          | exact VTo.n rfl
          | fail)
        all_goals rfl
      rintro ⟨i, o⟩ ⟨g1, g2, g3⟩
      dsimp only at g1 g2 g3 ⊢
      obtain rfl : i = 0 := Nat.le_zero.mp g1
      obtain rfl : o = [] := List.length_eq_zero_iff.mp (Nat.le_zero.mp g2)
      have fin := fin [] key.symm
      have vl := ref3_Valid (W0 := W0) [] (by decide)
      rw [fin]
      by_cases ok : okName [] = true
      · rw [ok] at vl
        rw [if_pos ok]
        repeat' first
          | refine .inl ⟨rfl, ?_⟩
          | refine (vl).call ?_
          | (apply Here.norm; (first | dsimp only [Env.putR, argEnv, pure1, newPtr, applyE, hset, List.length_cons, List.length_nil, List.length_append, List.set, List.cons_append, List.nil_append] | rfl); (first | dsimp only [Env.putR, argEnv, pure1, newPtr, applyE, hset, List.length_cons, List.length_nil, List.length_append, List.set, List.cons_append, List.nil_append] | rfl))
          | fail
        rfl
      · rw [show okName [] = false by simpa using ok] at vl
        rw [if_neg ok]
        repeat' first
          | refine .inl ⟨rfl, ?_⟩
          | refine (vl).call ?_
          | (apply Here.norm; (first | dsimp only [Env.putR, argEnv, pure1, newPtr, applyE, hset, List.length_cons, List.length_nil, List.length_append, List.set, List.cons_append, List.nil_append] | rfl); (first | dsimp only [Env.putR, argEnv, pure1, newPtr, applyE, hset, List.length_cons, List.length_nil, List.length_append, List.set, List.cons_append, List.nil_append] | rfl))
          | fail
        rfl
    | cons x t =>
      have hol : (byteV (x :: t)).length = t.length + 1 := by rw [byteV_length]; rfl
      repeat' first
        | refine brP.fD (by omega) ?_
        | (apply Here.norm; (first | dsimp only [Env.putR, argEnv, pure1, newPtr, applyE, hset, List.length_cons, List.length_nil, List.length_append, List.set, List.cons_append, List.nil_append] | rfl); (first | dsimp only [Env.putR, argEnv, pure1, newPtr, applyE, hset, List.length_cons, List.length_nil, List.length_append, List.set, List.cons_append, List.nil_append] | rfl))
        | fail
      refine loop_I (C_ok W0) (fun q : Nat × List UInt8 => q.1 ≤ ((x :: t)).length ∧ q.2.length ≤ q.1 ∧ q.2 = (((x :: t)).take q.1).foldl dstep []) (fun q => [(2, .string ⟨#[]⟩), (3, .bool false), (4, LV (byteV ((x :: t))) ((x :: t)).length), (9, bsV 0 q.2), (10, .int .i64 q.1)]) (fun q => [bbV q.2]) (fun q => ((x :: t)).length - q.1) (0, [])
        ⟨Nat.zero_le _, Nat.le_refl _, rfl⟩ ⟨_, rfl, ?_⟩ ?_
      · dsimp only [List.map]
        exact RT.trans (RT.fz 0 rfl NFs.h (.cons (VTo.n rfl) (.cons (VTo.n rfl) (.cons (VTo.fz' (by rw [hol]; simp) (by rw [List.drop_zero, List.take_of_length_le (by rw [hol]; simp)])) (.cons (VTo.n rfl) (.cons (VTo.n rfl) .nil)))))) .pad
      rintro ⟨i, o⟩ ⟨g1, g2, g3⟩
      dsimp only at g1 g2 g3 ⊢
      have ol2 : ((x :: t)).length ≤ 1000000 := ol
      have lc : ((x :: t)).length = t.length + 1 := rfl
      by_cases hi : i < ((x :: t)).length
      · have hv : (byteV ((x :: t)))[((i : Int).toNat) * 1]? = some (.int .u8 ((((x :: t))[i]'hi).toNat : Int)) := byteV_at hi
        have w1 : IntKind.i64.wrap ((i : Int) + 1) = ((i + 1 : Nat) : Int) := by rw [wrap_in (by omega)]; omega
        have e3 : (((x :: t)).take (i + 1)).foldl dstep [] = dstep o (((x :: t))[i]'hi) := by
          rw [List.take_add_one, List.getElem?_eq_getElem hi, g3, List.foldl_append]; rfl
        generalize ((x :: t))[i]'hi = c at *
        by_cases h46 : c = 46
        · have c46 : (c.toNat : Int) = 46 := by rw [h46]; rfl
          rcases List.eq_nil_or_concat o with ho | ⟨a, y, ho⟩
          · have e4 : dstep o c = o := by unfold dstep; rw [if_pos ⟨h46, .inl ho⟩]
            rw [e4] at e3
            subst ho
            repeat' first
              | refine brP.tD (by omega) ?_
              | refine ⟨_, hv, ?_⟩
              | (apply Here.norm; (first | dsimp only [Env.putR, argEnv, pure1, newPtr, applyE, hset, List.length_cons, List.length_nil, List.length_append, List.set, List.cons_append, List.nil_append] | rfl); (first | dsimp only [Env.putR, argEnv, pure1, newPtr, applyE, hset, List.length_cons, List.length_nil, List.length_append, List.set, List.cons_append, List.nil_append] | rfl))
              | refine ⟨InB.mk (by first | decide | omega) (by first | decide | omega), ?_⟩
              | fail
            apply Again.mk (i + 1, [])
            · exact ⟨by dsimp only; omega, by dsimp only; simp, e3.symm⟩
            · dsimp only; omega
            exact ⟨_, rfl, RT.of_eq (by rw [w1]; rfl) rfl⟩
          · rw [List.concat_eq_append] at ho
            subst ho
            have al : (a ++ [y]).length = a.length + 1 := by simp
            rw [al] at g2
            rw [bsV_snoc, bbV_snoc]
            have w2 : IntKind.i64.wrap (((a.length + 1 : Nat) : Int) - 1) = (a.length : Int) := by rw [wrap_in (by omega)]; omega
            have e1 : (byteV (a ++ [y]))[0 + (IntKind.i64.wrap (((a.length + 1 : Nat) : Int) - 1)).toNat * 1]? = some (.int .u8 (y.toNat : Int)) := by rw [w2]; simp [byteV]
            by_cases hy : y = 46
            · have y46 : (y.toNat : Int) = 46 := by rw [hy]; rfl
              have e4 : dstep (a ++ [y]) c = a ++ [y] := by unfold dstep; rw [if_pos ⟨h46, .inr (by rw [List.getLast?_concat, hy])⟩]
              rw [e4] at e3
              repeat' first
                | refine brP.tD (by omega) ?_
                | refine ⟨_, hv, ?_⟩
                | refine ⟨_, _, _, _, _, rfl, _, e1, ?_⟩
                | (apply Here.norm; (first | dsimp only [Env.putR, argEnv, pure1, newPtr, applyE, hset, List.length_cons, List.length_nil, List.length_append, List.set, List.cons_append, List.nil_append] | rfl); (first | dsimp only [Env.putR, argEnv, pure1, newPtr, applyE, hset, List.length_cons, List.length_nil, List.length_append, List.set, List.cons_append, List.nil_append] | rfl))
                | refine ⟨InB.mk (by first | decide | omega) (by first | decide | omega), ?_⟩
                | fail
              apply Again.mk (i + 1, a ++ [y])
              · exact ⟨by dsimp only; omega, by dsimp only; rw [al]; omega, e3.symm⟩
              · dsimp only; omega
              refine ⟨_, rfl, RT.of_eq ?_ ?_⟩
              · rw [w1]; dsimp only [List.map]; rw [bsV_snoc]; rfl
              · dsimp only; rw [bbV_snoc]; rfl
            · have y46 : (y.toNat : Int) ≠ 46 := u8_ne hy
              have e4 : dstep (a ++ [y]) c = a ++ [y] ++ [c] := by unfold dstep; rw [if_neg (by rintro ⟨_, z | z⟩; simp at z; rw [List.getLast?_concat] at z; exact hy (by simpa using z))]
              rw [e4] at e3
              have hol3 : (byteV (a ++ [y])).length = a.length + 1 := by rw [byteV_length, al]
              repeat' first
                | refine brP.tD (by omega) ?_
                | refine brP.fD (by omega) ?_
                | refine ⟨_, hv, ?_⟩
                | refine ⟨_, _, _, _, _, rfl, _, e1, ?_⟩
                | (apply Here.norm; (first | dsimp only [Env.putR, argEnv, pure1, newPtr, applyE, hset, List.length_cons, List.length_nil, List.length_append, List.set, List.cons_append, List.nil_append] | rfl); (first | dsimp only [Env.putR, argEnv, pure1, newPtr, applyE, hset, List.length_cons, List.length_nil, List.length_append, List.set, List.cons_append, List.nil_append] | rfl))
                | refine ⟨InB.mk (by first | decide | omega) (by first | decide | omega), ?_⟩
                | refine ⟨trivial, ?_⟩
                | refine ⟨by decide, rfl, by decide, ?_⟩
                | refine .inr ⟨by decide, _, _, _, _, _, rfl, rfl, Fits.mk (by first | exact Nat.le_of_ble_eq_true rfl | omega), ?_⟩
                | refine .inr ⟨by decide, _, _, _, _, _, rfl, rfl, Room.mk (by omega) (by omega), .inr (.inr ⟨(by omega), rfl, rfl, rfl, (by first | omega | (simp; done) | (simp; omega)), (by omega), rfl, ?_⟩)⟩
                | fail
              apply Again.mk (i + 1, a ++ [y] ++ [c])
              · exact ⟨by dsimp only; omega, (by dsimp only; rw [List.length_append, al]; simp; omega), e3.symm⟩
              · dsimp only; omega
              refine ⟨_, rfl, ?_⟩
              dsimp only [List.map]
              rw [bsV_snoc, bbV_snoc]
              try rw [al]
              refine RT.ren [2] rfl rfl ⟨⟨_, rfl, BTo.cells (fun z => z) (LTo.n (bytes_snoc (x := c) al.symm rfl)), (fun z => by cases z)⟩, trivial⟩ ?_
              all_goals (repeat' first
                | exact LTo.nil
                | exact VTo.slice (by decide)
                | refine LTo.cons ?_ ?_
                | refine VTo.int ?_
                | refine VTo.bool ?_
                | refine VTo.string ?_
                | (with_reducible rfl)
                | exact VTo.n rfl
                | fail)
              all_goals first
                | exact w1
                | rfl
        · have c46 : (c.toNat : Int) ≠ 46 := u8_ne h46
          have e4 : dstep o c = o ++ [c] := by unfold dstep; rw [if_neg (fun z => h46 z.1)]
          rw [e4] at e3
          cases o with
          | nil =>
            repeat' first
              | refine brP.tD (by omega) ?_
              | refine brP.fD (by omega) ?_
              | refine ⟨_, hv, ?_⟩
              | (apply Here.norm; (first | dsimp only [Env.putR, argEnv, pure1, newPtr, applyE, hset, List.length_cons, List.length_nil, List.length_append, List.set, List.cons_append, List.nil_append] | rfl); (first | dsimp only [Env.putR, argEnv, pure1, newPtr, applyE, hset, List.length_cons, List.length_nil, List.length_append, List.set, List.cons_append, List.nil_append] | rfl))
              | refine ⟨InB.mk (by first | decide | omega) (by first | decide | omega), ?_⟩
              | refine ⟨trivial, ?_⟩
              | refine ⟨by decide, rfl, by decide, ?_⟩
              | refine .inr ⟨by decide, _, _, _, _, _, rfl, rfl, Fits.mk (by first | exact Nat.le_of_ble_eq_true rfl | omega), ?_⟩
              | refine .inr ⟨by decide, by decide, Room.mk (by decide) (by decide), ?_⟩
              | fail
            apply Again.mk (i + 1, [] ++ [c])
            · exact ⟨by dsimp only; omega, (by dsimp only; simp), e3.symm⟩
            · dsimp only; omega
            refine ⟨_, rfl, ?_⟩
            dsimp only [List.map]
            rw [bsV_snoc, bbV_snoc]
            try rw [al]
            refine RT.ren [2] rfl rfl ⟨⟨_, rfl, BTo.cells (fun z => z) (.cons (VTo.int rfl) .nil), (fun z => by cases z)⟩, trivial⟩ ?_
            all_goals (repeat' first
              | exact LTo.nil
              | exact VTo.slice (by decide)
              | refine LTo.cons ?_ ?_
              | refine VTo.int ?_
              | refine VTo.bool ?_
              | refine VTo.string ?_
              | (with_reducible rfl)
              | exact VTo.n rfl
              | fail)
            all_goals first
              | exact w1
              | rfl
          | cons z u =>
            have g2' : u.length + 1 ≤ i := g2
            have hol3 : (byteV (z :: u)).length = u.length + 1 := by rw [byteV_length]; rfl
            repeat' first
              | refine brP.tD (by omega) ?_
              | refine brP.fD (by omega) ?_
              | refine ⟨_, hv, ?_⟩
              | (apply Here.norm; (first | dsimp only [Env.putR, argEnv, pure1, newPtr, applyE, hset, List.length_cons, List.length_nil, List.length_append, List.set, List.cons_append, List.nil_append] | rfl); (first | dsimp only [Env.putR, argEnv, pure1, newPtr, applyE, hset, List.length_cons, List.length_nil, List.length_append, List.set, List.cons_append, List.nil_append] | rfl))
              | refine ⟨InB.mk (by first | decide | omega) (by first | decide | omega), ?_⟩
              | refine ⟨trivial, ?_⟩
              | refine ⟨by decide, rfl, by decide, ?_⟩
              | refine .inr ⟨by decide, _, _, _, _, _, rfl, rfl, Fits.mk (by first | exact Nat.le_of_ble_eq_true rfl | omega), ?_⟩
              | refine .inr ⟨by decide, _, _, _, _, _, rfl, rfl, Room.mk (by omega) (by omega), .inr (.inr ⟨(by omega), rfl, rfl, rfl, (by first | omega | (simp; done) | (simp; omega)), (by omega), rfl, ?_⟩)⟩
              | fail
            apply Again.mk (i + 1, (z :: u) ++ [c])
            · exact ⟨by dsimp only; omega, (by dsimp only; simp; omega), e3.symm⟩
            · dsimp only; omega
            refine ⟨_, rfl, ?_⟩
            dsimp only [List.map]
            rw [bsV_snoc, bbV_snoc]
            try rw [al]
            refine RT.ren [2] rfl rfl ⟨⟨_, rfl, BTo.cells (fun z => z) (LTo.n (bytes_snoc (x := c) rfl rfl)), (fun z => by cases z)⟩, trivial⟩ ?_
            all_goals (repeat' first
              | exact LTo.nil
              | exact VTo.slice (by decide)
              | refine LTo.cons ?_ ?_
              | refine VTo.int ?_
              | refine VTo.bool ?_
              | refine VTo.string ?_
              | (with_reducible rfl)
              | exact VTo.n rfl
              | fail)
            all_goals first
              | exact w1
              | rfl
      · obtain rfl : i = ((x :: t)).length := by omega
        rw [List.take_of_length_le (Nat.le_refl _)] at g3
        rw [← g3] at key
        rcases List.eq_nil_or_concat o with ho | ⟨a, y, ho⟩
        · subst ho
          have fin := fin [] key.symm
          have vl := ref3_Valid (W0 := W0) [] (by decide)
          rw [fin]
          by_cases ok : okName [] = true
          · rw [ok] at vl
            rw [if_pos ok]
            repeat' first
              | refine brP.fD (by omega) ?_
              | refine .inl ⟨rfl, ?_⟩
              | refine (vl).call ?_
              | (apply Here.norm; (first | dsimp only [Env.putR, argEnv, pure1, newPtr, applyE, hset, List.length_cons, List.length_nil, List.length_append, List.set, List.cons_append, List.nil_append] | rfl); (first | dsimp only [Env.putR, argEnv, pure1, newPtr, applyE, hset, List.length_cons, List.length_nil, List.length_append, List.set, List.cons_append, List.nil_append] | rfl))
              | fail
            rfl
          · rw [show okName [] = false by simpa using ok] at vl
            rw [if_neg ok]
            repeat' first
              | refine brP.fD (by omega) ?_
              | refine .inl ⟨rfl, ?_⟩
              | refine (vl).call ?_
              | (apply Here.norm; (first | dsimp only [Env.putR, argEnv, pure1, newPtr, applyE, hset, List.length_cons, List.length_nil, List.length_append, List.set, List.cons_append, List.nil_append] | rfl); (first | dsimp only [Env.putR, argEnv, pure1, newPtr, applyE, hset, List.length_cons, List.length_nil, List.length_append, List.set, List.cons_append, List.nil_append] | rfl))
              | fail
            rfl
        · rw [List.concat_eq_append] at ho
          subst ho
          have al : (a ++ [y]).length = a.length + 1 := by simp
          rw [al] at g2
          rw [bsV_snoc, bbV_snoc]
          have w2 : IntKind.i64.wrap (((a.length + 1 : Nat) : Int) - 1) = (a.length : Int) := by rw [wrap_in (by omega)]; omega
          have e1 : (byteV (a ++ [y]))[0 + (IntKind.i64.wrap (((a.length + 1 : Nat) : Int) - 1)).toNat * 1]? = some (.int .u8 (y.toNat : Int)) := by rw [w2]; simp [byteV]
          unfold strip1 at key
          rw [List.getLast?_concat] at key
          have hol3 : (byteV (a ++ [y])).length = a.length + 1 := by rw [byteV_length, al]
          by_cases hy : y = 46
          · have y46 : (y.toNat : Int) = 46 := by rw [hy]; rfl
            rw [hy, if_pos rfl, List.dropLast_concat] at key
            have fin := fin a key.symm
            have vl := ref3_Valid (W0 := W0) a (by omega)
            rw [fin]
            by_cases ha : a = []
            · subst ha
              by_cases ok : okName [] = true
              · rw [ok] at vl
                rw [if_pos ok]
                repeat' first
                  | refine brP.tD (by omega) ?_
                  | refine brP.fD (by omega) ?_
                  | refine ⟨_, _, _, _, _, rfl, _, e1, ?_⟩
                  | refine (vl).call ?_
                  | refine ⟨_, _, _, _, _, rfl, rfl, ?_⟩
                  | refine .inl ⟨(by decide), ?_⟩
                  | (apply Here.norm; (first | dsimp only [Env.putR, argEnv, pure1, newPtr, applyE, hset, List.length_cons, List.length_nil, List.length_append, List.set, List.cons_append, List.nil_append] | rfl); (first | dsimp only [Env.putR, argEnv, pure1, newPtr, applyE, hset, List.length_cons, List.length_nil, List.length_append, List.set, List.cons_append, List.nil_append] | rfl))
                  | refine ⟨InB.mk (by first | decide | omega) (by first | decide | omega), ?_⟩
                  | refine ⟨SlB.mk (by first | omega | decide) (by first | omega | decide) (by first | omega | decide), ?_⟩
                  | fail
                rfl
              · rw [show okName [] = false by simpa using ok] at vl
                rw [if_neg ok]
                repeat' first
                  | refine brP.tD (by omega) ?_
                  | refine brP.fD (by omega) ?_
                  | refine ⟨_, _, _, _, _, rfl, _, e1, ?_⟩
                  | refine (vl).call ?_
                  | refine ⟨_, _, _, _, _, rfl, rfl, ?_⟩
                  | refine .inl ⟨(by decide), ?_⟩
                  | (apply Here.norm; (first | dsimp only [Env.putR, argEnv, pure1, newPtr, applyE, hset, List.length_cons, List.length_nil, List.length_append, List.set, List.cons_append, List.nil_append] | rfl); (first | dsimp only [Env.putR, argEnv, pure1, newPtr, applyE, hset, List.length_cons, List.length_nil, List.length_append, List.set, List.cons_append, List.nil_append] | rfl))
                  | refine ⟨InB.mk (by first | decide | omega) (by first | decide | omega), ?_⟩
                  | refine ⟨SlB.mk (by first | omega | decide) (by first | omega | decide) (by first | omega | decide), ?_⟩
                  | fail
                rfl
            · have ap : 0 < a.length := List.length_pos_iff.mpr ha
              have np : 0 < (IntKind.i64.wrap (((a.length + 1 : Nat) : Int) - 1)).toNat - ((0 : Nat) : Int).toNat := by rw [w2]; simp; omega
              have f2 : 0 + ((0 : Nat) : Int).toNat * 1 + ((IntKind.i64.wrap (((a.length + 1 : Nat) : Int) - 1)).toNat - ((0 : Nat) : Int).toNat) ≤ (byteV (a ++ [y])).length := by rw [w2, hol3]; simp
              have f3 : List.take ((IntKind.i64.wrap (((a.length + 1 : Nat) : Int) - 1)).toNat - ((0 : Nat) : Int).toNat) (List.drop (0 + ((0 : Nat) : Int).toNat * 1) (byteV (a ++ [y]))) = byteV a := by rw [w2]; simp [byteV]
              by_cases ok : okName a = true
              · rw [ok] at vl
                rw [if_pos ok]
                repeat' first
                  | refine brP.tD (by omega) ?_
                  | refine brP.fD (by omega) ?_
                  | refine ⟨_, _, _, _, _, rfl, _, e1, ?_⟩
                  | refine (vl).call ?_
                  | refine ⟨_, _, _, _, _, rfl, rfl, ?_⟩
                  | refine .inr ⟨rfl, np, _, _, _, _, _, rfl, rfl, f2, _, f3, ?_⟩
                  | (apply Here.norm; (first | dsimp only [Env.putR, argEnv, pure1, newPtr, applyE, hset, List.length_cons, List.length_nil, List.length_append, List.set, List.cons_append, List.nil_append] | rfl); (first | dsimp only [Env.putR, argEnv, pure1, newPtr, applyE, hset, List.length_cons, List.length_nil, List.length_append, List.set, List.cons_append, List.nil_append] | rfl))
                  | refine ⟨InB.mk (by first | decide | omega) (by first | decide | omega), ?_⟩
                  | refine ⟨SlB.mk (by first | omega | decide) (by first | omega | decide) (by first | omega | decide), ?_⟩
                  | fail
                rfl
              · rw [show okName a = false by simpa using ok] at vl
                rw [if_neg ok]
                repeat' first
                  | refine brP.tD (by omega) ?_
                  | refine brP.fD (by omega) ?_
                  | refine ⟨_, _, _, _, _, rfl, _, e1, ?_⟩
                  | refine (vl).call ?_
                  | refine ⟨_, _, _, _, _, rfl, rfl, ?_⟩
                  | refine .inr ⟨rfl, np, _, _, _, _, _, rfl, rfl, f2, _, f3, ?_⟩
                  | (apply Here.norm; (first | dsimp only [Env.putR, argEnv, pure1, newPtr, applyE, hset, List.length_cons, List.length_nil, List.length_append, List.set, List.cons_append, List.nil_append] | rfl); (first | dsimp only [Env.putR, argEnv, pure1, newPtr, applyE, hset, List.length_cons, List.length_nil, List.length_append, List.set, List.cons_append, List.nil_append] | rfl))
                  | refine ⟨InB.mk (by first | decide | omega) (by first | decide | omega), ?_⟩
                  | refine ⟨SlB.mk (by first | omega | decide) (by first | omega | decide) (by first | omega | decide), ?_⟩
                  | fail
                rfl
          · have y46 : (y.toNat : Int) ≠ 46 := u8_ne hy
            rw [if_neg (by intro z; exact hy (by simpa using z))] at key
            have fin := fin (a ++ [y]) key.symm
            have vl := ref3_Valid (W0 := W0) (a ++ [y]) (by rw [al]; omega)
            have f2 : 0 + (a.length + 1) ≤ (byteV (a ++ [y])).length := by rw [hol3]; omega
            have f3 : List.take (a.length + 1) (List.drop 0 (byteV (a ++ [y]))) = byteV (a ++ [y]) := by rw [List.drop_zero, List.take_of_length_le (by rw [hol3]; exact Nat.le_refl _)]
            rw [fin]
            by_cases ok : okName (a ++ [y]) = true
            · rw [ok] at vl
              rw [if_pos ok]
              repeat' first
                | refine brP.tD (by omega) ?_
                | refine brP.fD (by omega) ?_
                | refine ⟨_, _, _, _, _, rfl, _, e1, ?_⟩
                | refine (vl).call ?_
                | refine .inr ⟨rfl, Nat.succ_pos _, _, _, _, _, _, rfl, rfl, f2, _, f3, ?_⟩
                | (apply Here.norm; (first | dsimp only [Env.putR, argEnv, pure1, newPtr, applyE, hset, List.length_cons, List.length_nil, List.length_append, List.set, List.cons_append, List.nil_append] | rfl); (first | dsimp only [Env.putR, argEnv, pure1, newPtr, applyE, hset, List.length_cons, List.length_nil, List.length_append, List.set, List.cons_append, List.nil_append] | rfl))
                | refine ⟨InB.mk (by first | decide | omega) (by first | decide | omega), ?_⟩
                | fail
              rfl
            · rw [show okName (a ++ [y]) = false by simpa using ok] at vl
              rw [if_neg ok]
              repeat' first
                | refine brP.tD (by omega) ?_
                | refine brP.fD (by omega) ?_
                | refine ⟨_, _, _, _, _, rfl, _, e1, ?_⟩
                | refine (vl).call ?_
                | refine .inr ⟨rfl, Nat.succ_pos _, _, _, _, _, _, rfl, rfl, f2, _, f3, ?_⟩
                | (apply Here.norm; (first | dsimp only [Env.putR, argEnv, pure1, newPtr, applyE, hset, List.length_cons, List.length_nil, List.length_append, List.set, List.cons_append, List.nil_append] | rfl); (first | dsimp only [Env.putR, argEnv, pure1, newPtr, applyE, hset, List.length_cons, List.length_nil, List.length_append, List.set, List.cons_append, List.nil_append] | rfl))
                | refine ⟨InB.mk (by first | decide | omega) (by first | decide | omega), ?_⟩
                | fail
              rfl
end Go.Proofs.YtioahngbfdfcaaaDoor
