import Derived.Test.YtioahngbfdfcaaaDoorKSh
set_option linter.unusedVariables false
set_option linter.unusedSimpArgs false
namespace Go.Proofs.YtioahngbfdfcaaaDoor
open Go Go.Den Go.RowKit
variable {W0 : World}
/-! tumblerref04: Parse; LineParses -/
abbrev answ (z : Ev × Int × Int) : Value := .tuple #[evV z.1, .int .i64 z.2.1, .int .i64 z.2.2]
theorem pre_bar (f : List (List UInt8)) (j : Nat) (h : j < f.length) : (barJ (f.take (j + 1))).length = (barJ (f.take j)).length + (f[j]).length + 1 := by
  rw [List.take_add_one, List.getElem?_eq_getElem h, Option.toList_some, barJ_app, List.length_append, barJ_cons]; simp [barJ]; omega
theorem bar_len : ∀ qs : List (List UInt8), qs.length ≤ (barJ qs).length
  | [] => Nat.le_refl _
  | q :: qs => by have := bar_len qs; rw [barJ_cons]; simp; omega
theorem kindL_in {kd : List UInt8} (h : ¬ kindL kd = 0) : 1 ≤ kindL kd ∧ kindL kd ≤ 4 := by
  unfold kindL at h ⊢
  repeat' split at h
  all_goals first | exact absurd rfl h | skip
  all_goals simp_all
theorem valR_kind (e : Ev) (s : List UInt8) : (valR e s).1.kind = e.kind := by
  unfold valR
  repeat' split
  all_goals rfl
attribute [local irreducible] parseL cutA cleanV kindL valR takeV stepP parseV stampV prtF fieldsP heads prtC
set_option maxRecDepth 20000 in
set_option maxHeartbeats 16000000 in
theorem ref4_Parse (s : List UInt8) (hs : s.length ≤ 1048576) : PureF (C W0) I.tumblerref04_Parse [.string (bs s)] (answ (parseL s)) := by
  have hsz := bs_size s
  have fin : ∀ z, parseL s = z → answ (parseL s) = answ z := fun z h => by rw [h]
  refine PureF.E (CallP.of_body (C_ok W0) B.tumblerref04_Parse rfl rfl rfl ?_)
  by_cases h1 : 1024 < s.length
  · rw [fin (ev0, 0, 2) (by unfold parseL; rw [if_pos h1])]
    repeat' first
      | refine brP.tD (by omega) ?_
      | (apply Here.norm; (first | dsimp only [Env.putR, argEnv, pure1, newPtr, applyE, hset, List.length_cons, List.length_nil, List.length_append, List.set, List.cons_append, List.nil_append] | rfl); (first | dsimp only [Env.putR, argEnv, pure1, newPtr, applyE, hset, List.length_cons, List.length_nil, List.length_append, List.set, List.cons_append, List.nil_append] | rfl))
      | refine ⟨_, _, _, _, _, rfl, rfl, rfl, Fits.mk (by first | exact Nat.le_of_ble_eq_true rfl | (dsimp only; omega)), rfl, ?_⟩
      | refine ⟨_, _, _, _, _, rfl, Fits.mk (by first | exact Nat.le_of_ble_eq_true rfl | (dsimp only; omega)), _, rfl, ?_⟩
      | fail
    rfl
  have rc := ref_Colon (W0 := W0) s hs
  by_cases h2 : (58 : UInt8) ∈ s
  · obtain ⟨n, p0, vs, es, u0, a1, dr, hn, hp0, hvs⟩ := line_ex h2
    have ul := upto_le h2
    rw [if_pos h2] at rc
    have e1 : (bs s).extract ((0 : Int).toNat) ((((upto 58 s).length : Nat) : Int).toNat) = bs n := by
      rw [Int.toNat_natCast, bs_extract, u0]
      rw [es]; simp
    have nl : n.length < s.length := by rw [← u0]; exact ul
    have cl := ref3_Clean (W0 := W0) n (by omega)
    rw [← e1] at cl
    have hl4 : (n ++ 58 :: (p0 ++ barJ vs)).length ≤ 1024 := by rw [← es]; omega
    by_cases h3 : (cleanV n).2 = true
    · rw [h3] at cl
      have w1 : IntKind.i64.wrap (((upto 58 s).length : Int) + 1) = ((at1 s : Nat) : Int) := by unfold at1; rw [wrap_in (by omega)]; omega
      have rp := ref_Parts (W0 := W0) s hs (at1 s) ul
      rw [← w1, dr, cut_bar vs p0 hp0 hvs, prtF_len, a1] at rp
      cases vs with
      | nil =>
        have e0 : n ++ 58 :: (p0 ++ barJ []) = n ++ 58 :: p0 := by simp [barJ]
        have pn := (congrArg parseL (es.trans e0)).trans (parse_no hn hp0 (by rw [← e0]; exact hl4) h3)
        rw [← e0, ← es] at pn
        rw [fin _ pn]
        repeat' first
          | refine brP.fD (by omega) ?_
          | refine (rc).call ?_
          | refine (cl).call ?_
          | refine (rp).call ?_
          | (apply Here.norm; (first | dsimp only [Env.putR, argEnv, pure1, newPtr, applyE, hset, List.length_cons, List.length_nil, List.length_append, List.set, List.cons_append, List.nil_append] | rfl); (first | dsimp only [Env.putR, argEnv, pure1, newPtr, applyE, hset, List.length_cons, List.length_nil, List.length_append, List.set, List.cons_append, List.nil_append] | rfl))
          | refine ⟨_, _, _, _, _, rfl, rfl, rfl, Fits.mk (by first | exact Nat.le_of_ble_eq_true rfl | (dsimp only; omega)), rfl, ?_⟩
          | refine ⟨_, _, _, _, _, rfl, Fits.mk (by first | exact Nat.le_of_ble_eq_true rfl | (dsimp only; omega)), _, rfl, ?_⟩
          | refine ⟨SlB.mk (by first | omega | decide) (by first | omega | decide) (by first | omega | decide), ?_⟩
          | refine ⟨_, rfl, ?_⟩
          | fail
        rw [hsz]; rfl
      | cons kd fs =>
        have hk := hvs kd (by simp)
        have hf := fun p hp => hvs p (List.mem_cons_of_mem _ hp)
        have pj := (congrArg parseL es).trans (parse_join hn hp0 hk hf hl4)
        have al := prtF_at (p0 :: kd :: fs) (n.length + 1)
        have c0 := prtC_at _ 0 _ (al 0 (by simp))
        have c1 := prtC_at _ 1 _ (al 1 (by simp))
        have cj := fun j (h : j < fs.length) => prtC_at _ (j + 2) _ (al (j + 2) (by simpa using h))
        simp only [List.getElem_cons_zero, List.getElem_cons_succ, List.take_zero, List.take_succ_cons, barJ_cons] at c0 c1 cj
        have hlen : (p0 :: kd :: fs).length = fs.length + 2 := rfl
        rw [hlen] at rp
        have nfL : NFs (prtC (prtF (n.length + 1) (p0 :: kd :: fs))) := inferInstance
        generalize prtC (prtF (n.length + 1) (p0 :: kd :: fs)) = L at rp c0 c1 cj nfL
        have q0 : L[((0 : Int).toNat) * 2 + 0]? = some (.string (bs p0)) := c0.1
        have q0a : L[((0 : Int).toNat) * 2 + 1]? = some (.int .i64 ((n.length + 1 : Nat) : Int)) := by have := c0.2; simpa [barJ] using this
        have q1 : L[((1 : Int).toNat) * 2 + 0]? = some (.string (bs kd)) := c1.1
        have q1a : L[((1 : Int).toNat) * 2 + 1]? = some (.int .i64 ((n.length + 1 + p0.length + 1 : Nat) : Int)) := by
          have := c1.2; simpa [barJ, Nat.add_assoc] using this
        have lens : s.length = n.length + p0.length + kd.length + (barJ fs).length + 3 - 1 := by rw [es, barJ_cons]; simp; omega
        have kdk := ref4_Kind (W0 := W0) kd
        by_cases h5 : kindL kd = 0
        · rw [h5] at kdk
          rw [fin (ev0, ((n.length + 1 + p0.length + 1 : Nat) : Int), 43) (pj.trans (by unfold parseP; rw [if_pos h3, if_pos h5]))]
          repeat' first
            | refine brP.fD (by omega) ?_
            | refine (rc).call ?_
            | refine (cl).call ?_
            | refine (rp).call ?_
            | refine (kdk).call ?_
            | refine ⟨_, q1, ?_⟩
            | refine ⟨_, q1a, ?_⟩
            | (apply Here.norm; (first | dsimp only [Env.putR, argEnv, pure1, newPtr, applyE, hset, List.length_cons, List.length_nil, List.length_append, List.set, List.cons_append, List.nil_append] | rfl); (first | dsimp only [Env.putR, argEnv, pure1, newPtr, applyE, hset, List.length_cons, List.length_nil, List.length_append, List.set, List.cons_append, List.nil_append] | rfl))
            | refine ⟨_, _, _, _, _, rfl, rfl, rfl, Fits.mk (by first | exact Nat.le_of_ble_eq_true rfl | (dsimp only; omega)), rfl, ?_⟩
            | refine ⟨_, _, _, _, _, rfl, _, rfl, ?_⟩
            | refine ⟨_, _, _, _, _, rfl, Fits.mk (by first | exact Nat.le_of_ble_eq_true rfl | (dsimp only; omega)), _, rfl, ?_⟩
            | refine draw_go (C_ok W0) (by kernel_rfl) ?_
            | refine ⟨cpt_ok (by kernel_rfl), ?_⟩
            | refine ⟨InB.mk (by first | decide | omega) (by first | decide | omega), ?_⟩
            | refine ⟨SlB.mk (by first | omega | decide) (by first | omega | decide) (by first | omega | decide), ?_⟩
            | refine ⟨by decide, ?_⟩
            | refine ⟨_, rfl, ?_⟩
            | fail
          rfl
        · have k14 := kindL_in h5
          have vl := ref4_value (W0 := W0) (evNew (cleanV n).1 (kindL kd)) p0 (by omega)
          have vk := valR_kind (evNew (cleanV n).1 (kindL kd)) p0
          have vs2 := val_same (e := evNew (cleanV n).1 (kindL kd)) rfl p0
          by_cases h6 : (takeV (evNew (cleanV n).1 (kindL kd)) p0).2 = true
          · have ev : valR (evNew (cleanV n).1 (kindL kd)) p0 = takeV (evNew (cleanV n).1 (kindL kd)) p0 := by
              rcases vs2 with h | h
              · exact h
              · rw [h.2] at h6; cases h6
            rw [ev] at vl vk
            rw [h6] at vl
            have pf : parseL s = (if (fieldsP (takeV (evNew (cleanV n).1 (kindL kd)) p0).1 false (n.length + 1 + p0.length + 1 + kd.length + 1) fs).2.2 = 0 then
                ((fieldsP (takeV (evNew (cleanV n).1 (kindL kd)) p0).1 false (n.length + 1 + p0.length + 1 + kd.length + 1) fs).1, 0, 0)
              else (ev0, (fieldsP (takeV (evNew (cleanV n).1 (kindL kd)) p0).1 false (n.length + 1 + p0.length + 1 + kd.length + 1) fs).2)) := pj.trans (by unfold parseP; rw [if_pos h3, if_neg h5, if_pos h6])
            obtain ⟨A, hA⟩ : ∃ A, A = answ (parseL s) := ⟨_, rfl⟩
            rw [pf] at hA
            rw [fin _ pf, ← hA]
            have vk2 : 1 ≤ (takeV (evNew (cleanV n).1 (kindL kd)) p0).1.kind ∧ (takeV (evNew (cleanV n).1 (kindL kd)) p0).1.kind ≤ 4 := by rw [vk]; exact k14
            generalize (takeV (evNew (cleanV n).1 (kindL kd)) p0).1 = e1 at *
            have hfl := bar_len fs
            have hfe : ∀ (j : Nat) (h : j < fs.length), (barJ (fs.take j)).length + (fs[j]).length + 1 ≤ (barJ fs).length := by
              intro j h
              rw [← pre_bar fs j h]
              conv => rhs; rw [← List.take_append_drop (j + 1) fs, barJ_app, List.length_append]
              exact Nat.le_add_right _ _
            repeat' first
              | refine brP.fD (by omega) ?_
              | refine (rc).call ?_
              | refine (cl).call ?_
              | refine (rp).call ?_
              | refine (kdk).call ?_
              | refine .inl ⟨_, vl, ?_⟩
              | refine ⟨_, q1, ?_⟩
              | refine ⟨_, q0, ?_⟩
              | (apply Here.norm; (first | dsimp only [Env.putR, argEnv, pure1, newPtr, applyE, hset, List.length_cons, List.length_nil, List.length_append, List.set, List.cons_append, List.nil_append] | rfl); (first | dsimp only [Env.putR, argEnv, pure1, newPtr, applyE, hset, List.length_cons, List.length_nil, List.length_append, List.set, List.cons_append, List.nil_append] | rfl))
              | refine ⟨_, _, _, _, _, rfl, rfl, rfl, Fits.mk (by first | exact Nat.le_of_ble_eq_true rfl | (dsimp only; omega)), rfl, ?_⟩
              | refine ⟨_, _, _, _, _, rfl, _, rfl, ?_⟩
              | refine ⟨_, _, _, _, _, rfl, Fits.mk (by first | exact Nat.le_of_ble_eq_true rfl | (dsimp only; omega)), _, rfl, ?_⟩
              | refine draw_go (C_ok W0) (by kernel_rfl) ?_
              | refine ⟨cpt_ok (by kernel_rfl), ?_⟩
              | refine ⟨InB.mk (by first | decide | omega) (by first | decide | omega), ?_⟩
              | refine ⟨SlB.mk (by first | omega | decide) (by first | omega | decide) (by first | omega | decide), ?_⟩
              | refine ⟨by decide, ?_⟩
              | refine ⟨_, rfl, ?_⟩
              | fail
            generalize hz0 : fieldsP e1 false (n.length + 1 + p0.length + 1 + kd.length + 1) fs = z at hA
            refine loop_I (C_ok W0) (fun q : Nat × Ev × Bool => q.1 ≤ fs.length ∧ 1 ≤ q.2.1.kind ∧ q.2.1.kind ≤ 4 ∧ fieldsP q.2.1 q.2.2 (n.length + 1 + p0.length + 1 + kd.length + 1 + (barJ (fs.take q.1)).length) (fs.drop q.1) = z)
              (fun q => [(0, .string (bs s)), (2, .pointer (some ⟨0, 0, none⟩)), (5, .pointer (some ⟨1, 0, none⟩)), (9, LV L (fs.length + 2)), (10, .pointer (some ⟨2, 0, none⟩)), (11, .bool q.2.2), (12, .int .i64 ((q.1 + 2 : Nat) : Int))])
              (fun q => [evB ev0, evB ev0, evB q.2.1]) (fun q => fs.length - q.1) (0, e1, false) ⟨Nat.zero_le _, vk2.1, vk2.2, by simpa [barJ] using hz0⟩ ⟨_, rfl, RT.of_eq rfl rfl⟩ ?_
            rintro ⟨j, e, r⟩ ⟨g1, g2, g3, g4⟩
            dsimp only at g1 g2 g3 g4 ⊢
            by_cases hj : j < fs.length
            · have w2 : IntKind.i64.wrap (((j + 2 : Nat) : Int) + 1) = ((j + 1 + 2 : Nat) : Int) := by rw [wrap_in (by omega)]; omega
              obtain ⟨d1, d2⟩ := cj j hj
              have qj : L[(((j + 2 : Nat) : Int).toNat) * 2 + 0]? = some (.string (bs fs[j])) := by rw [Int.toNat_natCast]; exact d1
              have qja : L[(((j + 2 : Nat) : Int).toNat) * 2 + 1]? = some (.int .i64 ((n.length + 1 + p0.length + 1 + kd.length + 1 + (barJ (fs.take j)).length : Nat) : Int)) := by
                rw [Int.toNat_natCast, d2]
                congr 2
                simp only [List.length_cons, List.length_append]; omega
              have pb := pre_bar fs j hj
              have fe := hfe j hj
              have fl := ref4_field (W0 := W0) e fs[j] r (by omega) ⟨g2, g3⟩
              rw [List.drop_eq_getElem_cons hj, fieldsP] at g4
              generalize fs[j] = p at *
              by_cases hz : (stepP e r p).2.2 = 0
              · rw [if_pos hz] at g4
                rw [hz] at fl
                obtain ⟨s1, s2, s3⟩ := step_ok hz
                cases p with
                | nil => exact absurd rfl s1
                | cons c t =>
                  have eb := byteAt_0 c t
                  have hsp := bs_size (c :: t)
                  have hl : (c :: t).length = t.length + 1 := rfl
                  cases r with
                  | true =>
                    rw [show (stepP e true (c :: t)).2.1 = true by rw [s2]; rfl] at g4
                    repeat' first
                      | refine brP.tD (by omega) ?_
                      | refine .inl ⟨_, fl, ?_⟩
                      | refine ⟨_, qj, ?_⟩
                      | (apply Here.norm; (first | dsimp only [Env.putR, argEnv, pure1, newPtr, applyE, hset, List.length_cons, List.length_nil, List.length_append, List.set, List.cons_append, List.nil_append] | rfl); (first | dsimp only [Env.putR, argEnv, pure1, newPtr, applyE, hset, List.length_cons, List.length_nil, List.length_append, List.set, List.cons_append, List.nil_append] | rfl))
                      | refine ⟨_, _, _, _, _, rfl, rfl, rfl, Fits.mk (by first | exact Nat.le_of_ble_eq_true rfl | (dsimp only; omega)), rfl, ?_⟩
                      | refine ⟨_, _, _, _, _, rfl, _, rfl, ?_⟩
                      | refine ⟨_, _, _, _, _, rfl, Fits.mk (by first | exact Nat.le_of_ble_eq_true rfl | (dsimp only; omega)), _, rfl, ?_⟩
                      | refine draw_go (C_ok W0) (by kernel_rfl) ?_
                      | refine ⟨cpt_ok (by kernel_rfl), ?_⟩
                      | refine ⟨InB.mk (by first | decide | omega) (by first | decide | omega), ?_⟩
                      | refine ⟨by decide, ?_⟩
                      | refine ⟨_, rfl, ?_⟩
                      | fail
                    apply Again.mk (j + 1, (stepP e true (c :: t)).1, true)
                    · refine ⟨by dsimp only; omega, by dsimp only; rw [s3]; exact g2, by dsimp only; rw [s3]; exact g3, ?_⟩
                      dsimp only
                      rw [pb, ← g4]; congr 1; omega
                    · dsimp only; omega
                    refine ⟨_, rfl, ?_⟩
                    refine RT.ren [0, 1, 2] rfl rfl ?_ ?_
                    all_goals (repeat' first
                      | exact trivial
                      | exact LTo.nil
                      | refine ⟨⟨_, rfl, ?_, (fun z => by cases z)⟩, ?_⟩
                      | refine BTo.cells (fun z => z) ?_
                      | exact VTo.ptr (by decide)
                      | refine LTo.cons ?_ ?_
                      | refine VTo.int ?_
                      | refine VTo.bool ?_
                      | refine VTo.string ?_
                      | (with_reducible rfl)
                      | exact VTo.n rfl
                      | fail)
                    all_goals first
                      | exact w2
                      | rfl
                  | false =>
                    have hd : (stepP e false (c :: t)).2.1 = decide (byteAt (bs (c :: t)) 0 = 64) := by
                      rw [s2, eb, Bool.false_or, heads_of]
                      by_cases c64 : c = 64
                      · rw [c64]; rfl
                      · have := u8_ne c64
                        rw [decide_eq_false c64, decide_eq_false (by rw [show ((64 : UInt8).toNat : Int) = 64 from rfl] at this; exact this)]
                    rw [hd] at g4
                    repeat' first
                      | refine brP.tD (by omega) ?_
                      | refine .inl ⟨_, fl, ?_⟩
                      | refine ⟨_, qj, ?_⟩
                      | (apply Here.norm; (first | dsimp only [Env.putR, argEnv, pure1, newPtr, applyE, hset, List.length_cons, List.length_nil, List.length_append, List.set, List.cons_append, List.nil_append] | rfl); (first | dsimp only [Env.putR, argEnv, pure1, newPtr, applyE, hset, List.length_cons, List.length_nil, List.length_append, List.set, List.cons_append, List.nil_append] | rfl))
                      | refine ⟨_, _, _, _, _, rfl, rfl, rfl, Fits.mk (by first | exact Nat.le_of_ble_eq_true rfl | (dsimp only; omega)), rfl, ?_⟩
                      | refine ⟨_, _, _, _, _, rfl, _, rfl, ?_⟩
                      | refine ⟨_, _, _, _, _, rfl, Fits.mk (by first | exact Nat.le_of_ble_eq_true rfl | (dsimp only; omega)), _, rfl, ?_⟩
                      | refine draw_go (C_ok W0) (by kernel_rfl) ?_
                      | refine ⟨cpt_ok (by kernel_rfl), ?_⟩
                      | refine ⟨InB.mk (by first | decide | omega) (by first | decide | omega), ?_⟩
                      | refine ⟨by decide, ?_⟩
                      | refine ⟨_, rfl, ?_⟩
                      | fail
                    apply Again.mk (j + 1, (stepP e false (c :: t)).1, (decide (byteAt (bs (c :: t)) 0 = 64)))
                    · refine ⟨by dsimp only; omega, by dsimp only; rw [s3]; exact g2, by dsimp only; rw [s3]; exact g3, ?_⟩
                      dsimp only
                      rw [pb, ← g4]; congr 1; omega
                    · dsimp only; omega
                    refine ⟨_, rfl, ?_⟩
                    refine RT.ren [0, 1, 2] rfl rfl ?_ ?_
                    all_goals (repeat' first
                      | exact trivial
                      | exact LTo.nil
                      | refine ⟨⟨_, rfl, ?_, (fun z => by cases z)⟩, ?_⟩
                      | refine BTo.cells (fun z => z) ?_
                      | exact VTo.ptr (by decide)
                      | refine LTo.cons ?_ ?_
                      | refine VTo.int ?_
                      | refine VTo.bool ?_
                      | refine VTo.string ?_
                      | (with_reducible rfl)
                      | exact VTo.n rfl
                      | fail)
                    all_goals first
                      | exact w2
                      | rfl
              · rw [if_neg hz] at g4
                rw [← g4, if_neg (show ¬ (e, ((n.length + 1 + p0.length + 1 + kd.length + 1 + (barJ (fs.take j)).length : Nat) : Int), (stepP e r p).2.2).2.2 = 0 from hz)] at hA
                repeat' first
                  | refine brP.tD (by omega) ?_
                  | refine brP.tN (by omega) ?_
                  | refine .inl ⟨_, fl, ?_⟩
                  | refine ⟨_, qj, ?_⟩
                  | refine ⟨_, qja, ?_⟩
                  | (apply Here.norm; (first | dsimp only [Env.putR, argEnv, pure1, newPtr, applyE, hset, List.length_cons, List.length_nil, List.length_append, List.set, List.cons_append, List.nil_append] | rfl); (first | dsimp only [Env.putR, argEnv, pure1, newPtr, applyE, hset, List.length_cons, List.length_nil, List.length_append, List.set, List.cons_append, List.nil_append] | rfl))
                  | refine ⟨_, _, _, _, _, rfl, rfl, rfl, Fits.mk (by first | exact Nat.le_of_ble_eq_true rfl | (dsimp only; omega)), rfl, ?_⟩
                  | refine ⟨_, _, _, _, _, rfl, _, rfl, ?_⟩
                  | refine ⟨_, _, _, _, _, rfl, Fits.mk (by first | exact Nat.le_of_ble_eq_true rfl | (dsimp only; omega)), _, rfl, ?_⟩
                  | refine draw_go (C_ok W0) (by kernel_rfl) ?_
                  | refine ⟨cpt_ok (by kernel_rfl), ?_⟩
                  | refine ⟨InB.mk (by first | decide | omega) (by first | decide | omega), ?_⟩
                  | refine ⟨by decide, ?_⟩
                  | refine ⟨_, rfl, ?_⟩
                  | fail
                exact hA.symm
            · have hjl : j = fs.length := by omega
              rw [hjl, List.drop_length, fieldsP] at g4
              rw [← g4, if_pos rfl] at hA
              repeat' first
                | refine brP.fD (by omega) ?_
                | (apply Here.norm; (first | dsimp only [Env.putR, argEnv, pure1, newPtr, applyE, hset, List.length_cons, List.length_nil, List.length_append, List.set, List.cons_append, List.nil_append] | rfl); (first | dsimp only [Env.putR, argEnv, pure1, newPtr, applyE, hset, List.length_cons, List.length_nil, List.length_append, List.set, List.cons_append, List.nil_append] | rfl))
                | refine ⟨_, _, _, _, _, rfl, rfl, rfl, Fits.mk (by first | exact Nat.le_of_ble_eq_true rfl | (dsimp only; omega)), rfl, ?_⟩
                | refine ⟨_, _, _, _, _, rfl, Fits.mk (by first | exact Nat.le_of_ble_eq_true rfl | (dsimp only; omega)), _, rfl, ?_⟩
                | fail
              exact hA.symm
          · have vf : (valR (evNew (cleanV n).1 (kindL kd)) p0).2 = false := by
              rcases vs2 with h | h
              · rw [h]; simpa using h6
              · exact h.1
            rw [vf] at vl
            rw [fin (ev0, ((n.length + 1 : Nat) : Int), 42) (pj.trans (by unfold parseP; rw [if_pos h3, if_neg h5, if_neg h6]))]
            repeat' first
              | refine brP.fD (by omega) ?_
              | refine (rc).call ?_
              | refine (cl).call ?_
              | refine (rp).call ?_
              | refine (kdk).call ?_
              | refine .inl ⟨_, vl, ?_⟩
              | refine ⟨_, q1, ?_⟩
              | refine ⟨_, q0, ?_⟩
              | refine ⟨_, q0a, ?_⟩
              | (apply Here.norm; (first | dsimp only [Env.putR, argEnv, pure1, newPtr, applyE, hset, List.length_cons, List.length_nil, List.length_append, List.set, List.cons_append, List.nil_append] | rfl); (first | dsimp only [Env.putR, argEnv, pure1, newPtr, applyE, hset, List.length_cons, List.length_nil, List.length_append, List.set, List.cons_append, List.nil_append] | rfl))
              | refine ⟨_, _, _, _, _, rfl, rfl, rfl, Fits.mk (by first | exact Nat.le_of_ble_eq_true rfl | (dsimp only; omega)), rfl, ?_⟩
              | refine ⟨_, _, _, _, _, rfl, _, rfl, ?_⟩
              | refine ⟨_, _, _, _, _, rfl, Fits.mk (by first | exact Nat.le_of_ble_eq_true rfl | (dsimp only; omega)), _, rfl, ?_⟩
              | refine draw_go (C_ok W0) (by kernel_rfl) ?_
              | refine ⟨cpt_ok (by kernel_rfl), ?_⟩
              | refine ⟨InB.mk (by first | decide | omega) (by first | decide | omega), ?_⟩
              | refine ⟨SlB.mk (by first | omega | decide) (by first | omega | decide) (by first | omega | decide), ?_⟩
              | refine ⟨by decide, ?_⟩
              | refine ⟨_, rfl, ?_⟩
              | fail
            rfl
    · rw [show (cleanV n).2 = false by simpa using h3] at cl
      rw [fin (ev0, 0, 41) ((congrArg parseL es).trans (parse_41 hn hl4 h3))]
      repeat' first
        | refine brP.fD (by omega) ?_
        | refine (rc).call ?_
        | refine (cl).call ?_
        | (apply Here.norm; (first | dsimp only [Env.putR, argEnv, pure1, newPtr, applyE, hset, List.length_cons, List.length_nil, List.length_append, List.set, List.cons_append, List.nil_append] | rfl); (first | dsimp only [Env.putR, argEnv, pure1, newPtr, applyE, hset, List.length_cons, List.length_nil, List.length_append, List.set, List.cons_append, List.nil_append] | rfl))
        | refine ⟨_, _, _, _, _, rfl, rfl, rfl, Fits.mk (by first | exact Nat.le_of_ble_eq_true rfl | (dsimp only; omega)), rfl, ?_⟩
        | refine ⟨_, _, _, _, _, rfl, Fits.mk (by first | exact Nat.le_of_ble_eq_true rfl | (dsimp only; omega)), _, rfl, ?_⟩
        | refine ⟨SlB.mk (by first | omega | decide) (by first | omega | decide) (by first | omega | decide), ?_⟩
        | refine ⟨_, rfl, ?_⟩
        | fail
      rfl
  · rw [if_neg h2] at rc
    rw [fin (ev0, (s.length : Int), 40) (by unfold parseL; rw [if_neg h1, if_neg h2])]
    repeat' first
      | refine brP.fD (by omega) ?_
      | refine (rc).call ?_
      | (apply Here.norm; (first | dsimp only [Env.putR, argEnv, pure1, newPtr, applyE, hset, List.length_cons, List.length_nil, List.length_append, List.set, List.cons_append, List.nil_append] | rfl); (first | dsimp only [Env.putR, argEnv, pure1, newPtr, applyE, hset, List.length_cons, List.length_nil, List.length_append, List.set, List.cons_append, List.nil_append] | rfl))
      | refine ⟨_, _, _, _, _, rfl, rfl, rfl, Fits.mk (by first | exact Nat.le_of_ble_eq_true rfl | (dsimp only; omega)), rfl, ?_⟩
      | refine ⟨_, _, _, _, _, rfl, Fits.mk (by first | exact Nat.le_of_ble_eq_true rfl | (dsimp only; omega)), _, rfl, ?_⟩
      | fail
    rw [hsz]; rfl
end Go.Proofs.YtioahngbfdfcaaaDoor
