import Derived.Test.YtioahngbfdfcaaaDoorKLk
set_option linter.unusedVariables false
set_option linter.unusedSimpArgs false
namespace Go.Proofs.YtioahngbfdfcaaaDoor
open Go Go.Den Go.RowKit
variable {W0 : World}
/-! LineParts -/
theorem bad_field {kd : List UInt8} (h : kd = [99] ∨ kd = [103] ∨ kd = [109, 115] ∨ kd = [115]) (e : Ev) (r : Bool) : (stepP e r kd).2.2 = 46 := by
  unfold stepP
  rcases h with rfl | rfl | rfl | rfl <;> rw [if_neg (by simp [heads]), if_neg (by simp [heads])]
theorem let_heads (k : Int) : letK k = [99] ∨ letK k = [103] ∨ letK k = [109, 115] ∨ letK k = [115] := by unfold letK; split <;> (try split) <;> (try split) <;> simp
theorem takeV_name (e : Ev) (m s : List UInt8) : takeV { e with name := m } s = ({ (takeV e s).1 with name := m }, (takeV e s).2) := by
  unfold takeV takeN
  dsimp only
  split
  · rfl
  · split
    · split
      · split <;> rfl
      · rfl
    · rfl
theorem takeV_timed (e : Ev) (s : List UInt8) : (takeV e s).1.timed = e.timed := by
  unfold takeV takeN
  dsimp only
  split
  · rfl
  · split
    · split
      · split <;> rfl
      · rfl
    · rfl
theorem runP_bad : ∀ (ps : List (List UInt8)) (p : List UInt8) (e : Ev) (r : Bool) (k : Nat), (∀ e' r', (stepP e' r' p).2.2 ≠ 0) → (fieldsP e r k (ps ++ [p])).2.2 ≠ 0
  | [], p, e, r, k, h => by
    rw [List.nil_append, fieldsP, if_neg (h e r)]; exact h e r
  | q :: ps, p, e, r, k, h => by
    rw [List.cons_append, fieldsP]
    by_cases c : (stepP e r q).2.2 = 0
    · rw [if_pos c]; exact runP_bad ps p _ _ _ h
    · rw [if_neg c]; exact c
/-- A line of one value that is read: no bar in the value. -/
theorem base_ok {n v kd : List UInt8} (h1 : (58 : UInt8) ∉ n) (hk : kd = [99] ∨ kd = [103] ∨ kd = [109, 115] ∨ kd = [115]) (hl : (n ++ 58 :: (v ++ 124 :: kd)).length ≤ 1024)
    (h : (parseL (n ++ 58 :: (v ++ 124 :: kd))).2.2 = 0) : (124 : UInt8) ∉ v ∧ (124 : UInt8) ∉ kd := by
  have h3 : (124 : UInt8) ∉ kd := by rcases hk with rfl | rfl | rfl | rfl <;> decide
  refine ⟨?_, h3⟩
  obtain ⟨p0, vs, e, q1, q2⟩ := ex_bar v
  cases vs with
  | nil => rw [e]; simpa [barJ] using q1
  | cons k fs =>
    exfalso
    have e1 : n ++ 58 :: (v ++ 124 :: kd) = n ++ 58 :: (p0 ++ barJ (k :: (fs ++ [kd]))) := by
      rw [e, barJ_cons, barJ_cons, barJ_app]; simp [barJ]
    rw [e1] at h hl
    rw [parse_join h1 q1 (q2 k (by simp)) (fun p hp => by
      rcases List.mem_append.mp hp with hp | hp
      · exact q2 p (List.mem_cons_of_mem _ hp)
      · rcases List.mem_singleton.mp hp with rfl; exact h3) hl] at h
    unfold parseP at h
    have hb := fun e' r' k' => runP_bad fs kd e' r' k' fun e'' r'' => by rw [bad_field hk]; decide
    by_cases c1 : (cleanV n).2 = true
    · rw [if_pos c1] at h
      by_cases c2 : kindL k = 0
      · rw [if_pos c2] at h; simp at h
      · rw [if_neg c2] at h
        by_cases c3 : (takeV (evNew (cleanV n).1 (kindL k)) p0).2 = true
        · rw [if_pos c3, if_neg (hb _ _ _)] at h
          exact hb _ _ _ h
        · rw [if_neg c3] at h; simp at h
    · rw [if_neg c1] at h; simp at h
theorem stampF_bound : ∀ (l : List UInt8) (n m : Int), 0 ≤ n → n ≤ 1099511627775 → stampF l n = some m → 0 ≤ m ∧ m ≤ 1099511627775
  | [], n, m, h1, h2, h => by simp only [stampF, Option.some.injEq] at h; omega
  | c :: t, n, m, h1, h2, h => by
    rw [stampF] at h
    by_cases hd : isd c = true
    · rw [if_pos hd] at h
      have hr := isd_yes hd
      by_cases ho : 1099511627775 < 10 * n + ((c.toNat : Int) - 48)
      · rw [if_pos ho] at h; cases h
      · rw [if_neg ho] at h
        exact stampF_bound t _ m (by omega) (by omega) h
    · rw [if_neg hd] at h; cases h
theorem stampV_bound (l : List UInt8) : 0 ≤ (stampV l).1 ∧ (stampV l).1 ≤ 1099511627775 := by
  unfold stampV
  cases h : stampF l 0 with
  | none => exact ⟨Int.le_refl 0, by show (0 : Int) ≤ 1099511627775; decide⟩
  | some n => exact stampF_bound l 0 n (by decide) (by decide) h
theorem step_rate {e : Ev} (ht : e.timed = false) (x : List UInt8) : ((stepP e false (64 :: x)).2.2 = 0 ∧ (stepP e false (64 :: x)).1 = { e with rate := (parseV x).1 } ∧ 1000 ≤ (parseV x).1 ∧ (parseV x).1 ≤ 1000000) ∨ (stepP e false (64 :: x)).2.2 = 44 := by
  unfold stepP
  rw [if_pos ⟨rfl, rfl, ht⟩]
  by_cases c : (parseV ((64 : UInt8) :: x).tail).2 = 0 ∧ 1000 ≤ (parseV ((64 : UInt8) :: x).tail).1 ∧ (parseV ((64 : UInt8) :: x).tail).1 ≤ 1000000 ∧ mayK e.kind = true
  · rw [if_pos c]; exact .inl ⟨rfl, rfl, c.2.1, c.2.2.1⟩
  · rw [if_neg c]; exact .inr rfl
theorem step_time {e : Ev} (ht : e.timed = false) (r : Bool) (x : List UInt8) : ((stepP e r (84 :: x)).2.2 = 0 ∧ (stepP e r (84 :: x)).1 = { e with timed := true, time := (stampV x).1 }) ∨ (stepP e r (84 :: x)).2.2 = 45 := by
  unfold stepP
  rw [if_neg (by rw [heads_of]; simp), if_pos ⟨rfl, ht⟩]
  by_cases c : (stampV ((84 : UInt8) :: x).tail).2 = true
  · rw [if_pos c]; exact .inl ⟨rfl, rfl⟩
  · rw [if_neg c]; exact .inr rfl
theorem parseP_0 {n v kd : List UInt8} {e : Ev} (c1 : (cleanV n).2 = true) (c2 : ¬ kindL kd = 0) (c3 : takeV (evNew (cleanV n).1 (kindL kd)) v = (e, true)) : parseP n v kd [] = (e, 0, 0) := by
  unfold parseP
  rw [if_pos c1, if_neg c2, c3, if_pos rfl]; rfl
theorem parseP_1 {n v kd p : List UInt8} {e : Ev} (c1 : (cleanV n).2 = true) (c2 : ¬ kindL kd = 0) (c3 : takeV (evNew (cleanV n).1 (kindL kd)) v = (e, true)) (s : (stepP e false p).2.2 = 0) : parseP n v kd [p] = ((stepP e false p).1, 0, 0) := by
  unfold parseP
  rw [if_pos c1, if_neg c2, c3, if_pos rfl, fieldsP_1, if_pos s, if_pos rfl]
theorem parseP_x {n v kd p : List UInt8} {e : Ev} {c : Int} (c1 : (cleanV n).2 = true) (c2 : ¬ kindL kd = 0) (c3 : takeV (evNew (cleanV n).1 (kindL kd)) v = (e, true)) (s : (stepP e false p).2.2 = c) (hc : c ≠ 0) : (parseP n v kd [p]).2.2 = c := by
  unfold parseP
  have hs : ¬ (stepP e false p).2.2 = 0 := by rw [s]; exact hc
  rw [if_pos c1, if_neg c2, c3, if_pos rfl, fieldsP_1, if_neg hs, if_neg hs]
  exact s
/-- LineParts' facts. -/
theorem parts_is {n v kd rt tm m : List UInt8} (h1 : (58 : UInt8) ∉ n) (hm : (58 : UInt8) ∉ m) (hk : kd = [99] ∨ kd = [103] ∨ kd = [109, 115] ∨ kd = [115]) (hr : (124 : UInt8) ∉ rt) (ht : (124 : UInt8) ∉ tm)
    (hl : n.length + m.length + v.length + rt.length + tm.length ≤ 900) (h : (parseL (n ++ 58 :: (v ++ 124 :: kd))).2.2 = 0) :
    (((parseL (n ++ 58 :: (v ++ 124 :: kd) ++ 124 :: 64 :: rt)).2.2 = 0 ∧ (parseL (n ++ 58 :: (v ++ 124 :: kd) ++ 124 :: 64 :: rt)).1 = { (parseL (n ++ 58 :: (v ++ 124 :: kd))).1 with rate := (parseV rt).1 } ∧ 1000 ≤ (parseV rt).1 ∧ (parseV rt).1 ≤ 1000000) ∨ (parseL (n ++ 58 :: (v ++ 124 :: kd) ++ 124 :: 64 :: rt)).2.2 = 44) ∧
    (((parseL (n ++ 58 :: (v ++ 124 :: kd) ++ 124 :: 84 :: tm)).2.2 = 0 ∧ ∃ t : Int, (parseL (n ++ 58 :: (v ++ 124 :: kd) ++ 124 :: 84 :: tm)).1 = { (parseL (n ++ 58 :: (v ++ 124 :: kd))).1 with timed := true, time := t } ∧ 0 ≤ t ∧ t ≤ 1099511627775) ∨ (parseL (n ++ 58 :: (v ++ 124 :: kd) ++ 124 :: 84 :: tm)).2.2 = 45) ∧
    (((cleanV m).2 = true ∧ (parseL (m ++ 58 :: (v ++ 124 :: kd))).2.2 = 0 ∧ (parseL (m ++ 58 :: (v ++ 124 :: kd))).1 = { (parseL (n ++ 58 :: (v ++ 124 :: kd))).1 with name := (cleanV m).1 }) ∨ ((cleanV m).2 = false ∧ (parseL (m ++ 58 :: (v ++ 124 :: kd))).2.2 = 41)) := by
  have k2 : kd.length ≤ 2 := by rcases hk with rfl | rfl | rfl | rfl <;> decide
  have ll : ∀ q : List UInt8, (q ++ 58 :: (v ++ 124 :: kd)).length = q.length + v.length + kd.length + 2 := fun q => by simp; omega
  obtain ⟨hv, h3⟩ := base_ok h1 hk (by rw [ll]; omega) h
  have b0 : ∀ q : List UInt8, q ++ 58 :: (v ++ 124 :: kd) = q ++ 58 :: (v ++ barJ [kd]) := fun q => by simp [barJ]
  have b1 : ∀ p : List UInt8, n ++ 58 :: (v ++ 124 :: kd) ++ 124 :: p = n ++ 58 :: (v ++ barJ [kd, p]) := fun p => by simp [barJ]
  have j0 := parse_join (fs := []) h1 hv h3 (by simp) (by rw [← b0, ll]; omega)
  have jm := parse_join (fs := []) hm hv h3 (by simp) (by rw [← b0, ll]; omega)
  have jr := parse_join (fs := [64 :: rt]) h1 hv h3 (by simp [hr]) (by rw [← b1, List.length_append, ll]; simp only [List.length_cons]; omega)
  have jt := parse_join (fs := [84 :: tm]) h1 hv h3 (by simp [ht]) (by rw [← b1, List.length_append, ll]; simp only [List.length_cons]; omega)
  rw [← b0] at j0 jm
  rw [← b1] at jr jt
  rw [j0] at h
  rw [j0, jm, jr, jt]
  unfold parseP at h
  by_cases c1 : (cleanV n).2 = true
  · rw [if_pos c1] at h
    by_cases c2 : kindL kd = 0
    · rw [if_pos c2] at h; simp at h
    · rw [if_neg c2] at h
      by_cases c3 : (takeV (evNew (cleanV n).1 (kindL kd)) v).2 = true
      · have tt := takeV_timed (evNew (cleanV n).1 (kindL kd)) v
        have tn := takeV_name (evNew (cleanV n).1 (kindL kd)) (cleanV m).1 v
        rw [show ({ evNew (cleanV n).1 (kindL kd) with name := (cleanV m).1 } : Ev) = evNew (cleanV m).1 (kindL kd) from rfl] at tn
        obtain ⟨e, ez⟩ : ∃ e, takeV (evNew (cleanV n).1 (kindL kd)) v = (e, true) := ⟨_, Prod.ext rfl c3⟩
        rw [ez] at tt tn
        have tt2 : e.timed = false := tt
        rw [parseP_0 c1 c2 ez]
        refine ⟨?_, ?_, ?_⟩
        · rcases step_rate tt2 rt with ⟨s1, s2, s3, s4⟩ | s1
          · rw [parseP_1 c1 c2 ez s1, s2]; exact .inl ⟨rfl, rfl, s3, s4⟩
          · rw [parseP_x c1 c2 ez s1 (by decide)]
            exact .inr rfl
        · rcases step_time tt2 false tm with ⟨s1, s2⟩ | s1
          · rw [parseP_1 c1 c2 ez s1, s2]; exact .inl ⟨rfl, _, rfl, (stampV_bound tm).1, (stampV_bound tm).2⟩
          · rw [parseP_x c1 c2 ez s1 (by decide)]
            exact .inr rfl
        · by_cases c : (cleanV m).2 = true
          · rw [parseP_0 c c2 tn]
            exact .inl ⟨c, rfl, rfl⟩
          · have c' : (cleanV m).2 = false := by simpa using c
            refine .inr ⟨c', ?_⟩
            unfold parseP; rw [if_neg c]
      · rw [if_neg c3] at h; simp at h
  · rw [if_neg c1] at h; simp at h
theorem ev_same {n m : ByteArray} {k v r t : Int} {d x : Bool} {i1 : Decidable (n = n)} {i2 : Decidable (k = k)} {i3 : Decidable (v = v)} {i4 : Decidable (m = m)} {i5 : Decidable (r = r)} {i6 : Decidable (t = t)} :
    (@decide (n = n) i1 && (@decide (k = k) i2 && (@decide (v = v) i3 && ((d == d) && (@decide (m = m) i4 && (@decide (r = r) i5 && ((x == x) && (@decide (t = t) i6 && true)))))))) = true := by simp
theorem clean_at (hW : WF W0) (l : List UInt8) (h : l.length ≤ 1000000) : PureF (C W0) I.name_Clean [.string (bs l)] (.tuple #[.string (bs (cleanV l).1), .bool (cleanV l).2]) := name_Clean hW l h
attribute [local irreducible] parseL cutA bareB textL baseL letK cleanV parseV
set_option maxRecDepth 20000 in
set_option maxHeartbeats 16000000 in
theorem lineParts (hW : WF W0) (nm va : List UInt8) (kd : Int) (rt tm other : List UInt8) (h0 : nm.length ≤ 1048576) (h1 : va.length ≤ 1048576) (h2 : -9223372036854775808 ≤ kd ∧ kd ≤ 9223372036854775807) (h3 : rt.length ≤ 1048576) (h4 : tm.length ≤ 1048576) (h5 : other.length ≤ 1048576) :
    PureF (C W0) I.tumblerlaw04_LineParts [.agg #[.string (bs nm), .string (bs va), .int .i64 kd, .string (bs rt), .string (bs tm)], .string (bs other)] (.bool true) := by
  have aw := awake hW
  have s0 := bs_size nm
  have s1 := bs_size va
  have s3 := bs_size rt
  have s4 := bs_size tm
  have s5 := bs_size other
  have p1 := law_bare (W0 := W0) nm h0
  have p2 := law_bare (W0 := W0) other h5
  have p3 := law_bare (W0 := W0) rt h3
  have p4 := law_bare (W0 := W0) tm h4
  have x0 := law_text (W0 := W0) ⟨nm, va, kd, rt, tm⟩ ⟨h0, h1, h2, h3, h4⟩ false false
  have x1 := law_text (W0 := W0) ⟨nm, va, kd, rt, tm⟩ ⟨h0, h1, h2, h3, h4⟩ true false
  have x2 := law_text (W0 := W0) ⟨nm, va, kd, rt, tm⟩ ⟨h0, h1, h2, h3, h4⟩ false true
  have x3 := law_text (W0 := W0) ⟨other, va, kd, rt, tm⟩ ⟨h5, h1, h2, h3, h4⟩ false false
  have w1 : IntKind.i64.wrap ((((bs nm).size : Nat) : Int) + (((bs other).size : Nat) : Int)) = ((nm.length + other.length : Nat) : Int) := by rw [wrap_in (by omega)]; omega
  have w2 : IntKind.i64.wrap (IntKind.i64.wrap ((((bs nm).size : Nat) : Int) + (((bs other).size : Nat) : Int)) + (((bs va).size : Nat) : Int)) = ((nm.length + other.length + va.length : Nat) : Int) := by rw [w1, wrap_in (by omega)]; omega
  have w3 : IntKind.i64.wrap (IntKind.i64.wrap (IntKind.i64.wrap ((((bs nm).size : Nat) : Int) + (((bs other).size : Nat) : Int)) + (((bs va).size : Nat) : Int)) + (((bs rt).size : Nat) : Int)) = ((nm.length + other.length + va.length + rt.length : Nat) : Int) := by rw [w2, wrap_in (by omega)]; omega
  have w4 : IntKind.i64.wrap (IntKind.i64.wrap (IntKind.i64.wrap (IntKind.i64.wrap ((((bs nm).size : Nat) : Int) + (((bs other).size : Nat) : Int)) + (((bs va).size : Nat) : Int)) + (((bs rt).size : Nat) : Int)) + (((bs tm).size : Nat) : Int)) = ((nm.length + other.length + va.length + rt.length + tm.length : Nat) : Int) := by rw [w3, wrap_in (by omega)]; omega
  refine PureF.E (CallP.of_body (C_ok W0) B.tumblerlaw04_LineParts rfl rfl rfl ?_)
  by_cases b1 : bareB nm = true
  · rw [b1] at p1
    by_cases b2 : bareB other = true
    · rw [b2] at p2
      by_cases b3 : bareB rt = true
      · rw [b3] at p3
        by_cases b4 : bareB tm = true
        · rw [b4] at p4
          by_cases hl : nm.length + other.length + va.length + rt.length + tm.length ≤ 900
          · have ll := let_len kd
            have e0 : textL ⟨nm, va, kd, rt, tm⟩ false false = nm ++ 58 :: (va ++ 124 :: letK kd) := by unfold textL baseL; simp
            have e1 : textL ⟨nm, va, kd, rt, tm⟩ true false = nm ++ 58 :: (va ++ 124 :: letK kd) ++ 124 :: 64 :: rt := by unfold textL baseL; simp
            have e2 : textL ⟨nm, va, kd, rt, tm⟩ false true = nm ++ 58 :: (va ++ 124 :: letK kd) ++ 124 :: 84 :: tm := by unfold textL baseL; simp
            have e3 : textL ⟨other, va, kd, rt, tm⟩ false false = other ++ 58 :: (va ++ 124 :: letK kd) := by unfold textL baseL; simp
            rw [e0] at x0
            rw [e1] at x1
            rw [e2] at x2
            rw [e3] at x3
            have l0 : (nm ++ 58 :: (va ++ 124 :: letK kd)).length ≤ 1024 := by simp; omega
            have l3 : (other ++ 58 :: (va ++ 124 :: letK kd)).length ≤ 1024 := by simp; omega
            have y0 := parse_at hW _ (nm ++ 58 :: (va ++ 124 :: letK kd)) rfl (by omega)
            have y1 := parse_at hW _ (nm ++ 58 :: (va ++ 124 :: letK kd) ++ 124 :: 64 :: rt) rfl (by rw [List.length_append]; simp only [List.length_cons]; omega)
            have y2 := parse_at hW _ (nm ++ 58 :: (va ++ 124 :: letK kd) ++ 124 :: 84 :: tm) rfl (by rw [List.length_append]; simp only [List.length_cons]; omega)
            have y3 := parse_at hW _ (other ++ 58 :: (va ++ 124 :: letK kd)) rfl (by omega)
            have pi := parts_is (v := va) (kd := letK kd) (bare_58 b1) (bare_58 b2) (let_heads kd) (bare_124 b3) (bare_124 b4) (by omega)
            have mp := micro_Parse (W0 := W0) rt h3
            have cl := clean_at hW other (by omega)
            clear e0 e1 e2 e3 l0 l3
            generalize nm ++ 58 :: (va ++ 124 :: letK kd) ++ 124 :: 64 :: rt = t1 at *
            generalize nm ++ 58 :: (va ++ 124 :: letK kd) ++ 124 :: 84 :: tm = t2 at *
            generalize nm ++ 58 :: (va ++ 124 :: letK kd) = t0 at *
            generalize other ++ 58 :: (va ++ 124 :: letK kd) = t3 at *
            generalize parseL t0 = z0 at *
            generalize parseL t1 = z1 at *
            generalize parseL t2 = z2 at *
            generalize parseL t3 = z3 at *
            generalize parseV rt = pv at *
            generalize cleanV other = cv at *
            obtain ⟨e, k0, c0⟩ := z0
            obtain ⟨f, k1, c1⟩ := z1
            obtain ⟨g, k2, c2⟩ := z2
            obtain ⟨h, k3, c3⟩ := z3
            obtain ⟨cn, cb⟩ := cv
            dsimp only at *
            by_cases hc : c0 = 0
            · subst hc
              obtain ⟨q1, q2, q3⟩ := pi rfl
              clear pi
              rcases q1 with ⟨rfl, rfl, r1, r2⟩ | rfl
              · rcases q2 with ⟨rfl, tt, rfl, r3, r4⟩ | rfl
                · rcases q3 with ⟨rfl, rfl, rfl⟩ | ⟨rfl, rfl⟩
                  ·
                    repeat' first
                      | refine brP.tD (by omega) ?_
                      | refine brP.fD (by omega) ?_
                      | refine brP.tN (by omega) ?_
                      | refine brP.fN (by omega) ?_
                      | refine brP.fD (Int.not_lt.mpr r3) ?_
                      | refine brP.fD (Int.not_lt.mpr r4) ?_
                      | refine (aw).call ?_
                      | refine .inl ⟨_, aw, ?_⟩
                      | refine (p1).call ?_
                      | refine .inl ⟨_, p1, ?_⟩
                      | refine (p2).call ?_
                      | refine .inl ⟨_, p2, ?_⟩
                      | refine (p3).call ?_
                      | refine .inl ⟨_, p3, ?_⟩
                      | refine (p4).call ?_
                      | refine .inl ⟨_, p4, ?_⟩
                      | refine (x0).call ?_
                      | refine .inl ⟨_, x0, ?_⟩
                      | refine (x1).call ?_
                      | refine .inl ⟨_, x1, ?_⟩
                      | refine (x2).call ?_
                      | refine .inl ⟨_, x2, ?_⟩
                      | refine (x3).call ?_
                      | refine .inl ⟨_, x3, ?_⟩
                      | refine (y0).call ?_
                      | refine .inl ⟨_, y0, ?_⟩
                      | refine (y1).call ?_
                      | refine .inl ⟨_, y1, ?_⟩
                      | refine (y2).call ?_
                      | refine .inl ⟨_, y2, ?_⟩
                      | refine (y3).call ?_
                      | refine .inl ⟨_, y3, ?_⟩
                      | refine (mp).call ?_
                      | refine .inl ⟨_, mp, ?_⟩
                      | refine (cl).call ?_
                      | refine .inl ⟨_, cl, ?_⟩
                      | refine brP.f (congrArg not ev_same) ?_
                      | refine brP.t ev_same ?_
                      | (apply Here.norm; (first | dsimp only [Env.putR, argEnv, pure1, newPtr, applyE, hset, List.length_cons, List.length_nil, List.length_append, List.set, List.cons_append, List.nil_append] | rfl); (first | dsimp only [Env.putR, argEnv, pure1, newPtr, applyE, hset, List.length_cons, List.length_nil, List.length_append, List.set, List.cons_append, List.nil_append] | rfl))
                      | refine brP.t (by assumption) ?_
                      | refine brP.f (by assumption) ?_
                      | refine brP.tD (by assumption) ?_
                      | refine brP.fD (by assumption) ?_
                      | refine brP.tN (by assumption) ?_
                      | refine brP.fN (by assumption) ?_
                      | refine brP.introD (fun h => ?_) (fun h => ?_)
                      | refine brP.introN (fun h => ?_) (fun h => ?_)
                      | refine brP.intro (fun h => ?_) (fun h => ?_)
                      | refine ⟨_, _, _, _, _, rfl, rfl, rfl, Fits.mk (by first | exact Nat.le_of_ble_eq_true rfl | (dsimp only; omega)), rfl, ?_⟩
                      | refine ⟨_, _, _, _, _, rfl, _, rfl, ?_⟩
                      | refine ⟨_, _, _, _, _, rfl, Fits.mk (by first | exact Nat.le_of_ble_eq_true rfl | (dsimp only; omega)), _, rfl, ?_⟩
                      | refine ⟨Fits.mk (by first | exact Nat.le_of_ble_eq_true rfl | (dsimp only; omega)), _, rfl, ?_⟩
                      | refine draw_go (C_ok W0) (by kernel_rfl) ?_
                      | refine ⟨cpt_ok (by kernel_rfl), ?_⟩
                      | refine ⟨InB.mk (by first | decide | omega) (by first | decide | omega), ?_⟩
                      | refine ⟨SlB.mk (by first | omega | decide) (by first | omega | decide) (by first | omega | decide), ?_⟩
                      | refine ⟨ShB.mk (by first | decide | omega), ?_⟩
                      | refine ⟨NzB.mk (by first | decide | omega), ?_⟩
                      | refine ⟨by decide, MkB.mk (by omega) (by omega) (by omega) (by omega), ?_⟩
                      | refine ⟨trivial, ?_⟩
                      | refine ⟨by decide, rfl, by decide, ?_⟩
                      | refine .inr ⟨by decide, _, _, _, _, _, rfl, rfl, Fits.mk (by first | exact Nat.le_of_ble_eq_true rfl | omega), ?_⟩
                      | refine .inr ⟨by decide, by decide, Room.mk (by decide) (by decide), ?_⟩
                      | refine .inr ⟨by decide, _, _, _, _, _, rfl, rfl, Room.mk (by omega) (by omega), .inr (.inr ⟨(by omega), rfl, rfl, rfl, (by first | omega | (simp; done) | (simp; omega)), (by omega), rfl, ?_⟩)⟩
                      | refine ⟨by decide, ?_⟩
                      | refine ⟨subHi_le _ _ _, ?_⟩
                      | refine ⟨_, rfl, ?_⟩
                      | fail
                    first
                      | rfl
                      | exact congrArg Value.bool (decide_eq_true rfl)
                      | exact congrArg Value.bool ev_same
                  ·
                    repeat' first
                      | refine brP.tD (by omega) ?_
                      | refine brP.fD (by omega) ?_
                      | refine brP.tN (by omega) ?_
                      | refine brP.fN (by omega) ?_
                      | refine brP.fD (Int.not_lt.mpr r3) ?_
                      | refine brP.fD (Int.not_lt.mpr r4) ?_
                      | refine (aw).call ?_
                      | refine .inl ⟨_, aw, ?_⟩
                      | refine (p1).call ?_
                      | refine .inl ⟨_, p1, ?_⟩
                      | refine (p2).call ?_
                      | refine .inl ⟨_, p2, ?_⟩
                      | refine (p3).call ?_
                      | refine .inl ⟨_, p3, ?_⟩
                      | refine (p4).call ?_
                      | refine .inl ⟨_, p4, ?_⟩
                      | refine (x0).call ?_
                      | refine .inl ⟨_, x0, ?_⟩
                      | refine (x1).call ?_
                      | refine .inl ⟨_, x1, ?_⟩
                      | refine (x2).call ?_
                      | refine .inl ⟨_, x2, ?_⟩
                      | refine (x3).call ?_
                      | refine .inl ⟨_, x3, ?_⟩
                      | refine (y0).call ?_
                      | refine .inl ⟨_, y0, ?_⟩
                      | refine (y1).call ?_
                      | refine .inl ⟨_, y1, ?_⟩
                      | refine (y2).call ?_
                      | refine .inl ⟨_, y2, ?_⟩
                      | refine (y3).call ?_
                      | refine .inl ⟨_, y3, ?_⟩
                      | refine (mp).call ?_
                      | refine .inl ⟨_, mp, ?_⟩
                      | refine (cl).call ?_
                      | refine .inl ⟨_, cl, ?_⟩
                      | refine brP.f (congrArg not ev_same) ?_
                      | refine brP.t ev_same ?_
                      | (apply Here.norm; (first | dsimp only [Env.putR, argEnv, pure1, newPtr, applyE, hset, List.length_cons, List.length_nil, List.length_append, List.set, List.cons_append, List.nil_append] | rfl); (first | dsimp only [Env.putR, argEnv, pure1, newPtr, applyE, hset, List.length_cons, List.length_nil, List.length_append, List.set, List.cons_append, List.nil_append] | rfl))
                      | refine brP.t (by assumption) ?_
                      | refine brP.f (by assumption) ?_
                      | refine brP.tD (by assumption) ?_
                      | refine brP.fD (by assumption) ?_
                      | refine brP.tN (by assumption) ?_
                      | refine brP.fN (by assumption) ?_
                      | refine brP.introD (fun h => ?_) (fun h => ?_)
                      | refine brP.introN (fun h => ?_) (fun h => ?_)
                      | refine brP.intro (fun h => ?_) (fun h => ?_)
                      | refine ⟨_, _, _, _, _, rfl, rfl, rfl, Fits.mk (by first | exact Nat.le_of_ble_eq_true rfl | (dsimp only; omega)), rfl, ?_⟩
                      | refine ⟨_, _, _, _, _, rfl, _, rfl, ?_⟩
                      | refine ⟨_, _, _, _, _, rfl, Fits.mk (by first | exact Nat.le_of_ble_eq_true rfl | (dsimp only; omega)), _, rfl, ?_⟩
                      | refine ⟨Fits.mk (by first | exact Nat.le_of_ble_eq_true rfl | (dsimp only; omega)), _, rfl, ?_⟩
                      | refine draw_go (C_ok W0) (by kernel_rfl) ?_
                      | refine ⟨cpt_ok (by kernel_rfl), ?_⟩
                      | refine ⟨InB.mk (by first | decide | omega) (by first | decide | omega), ?_⟩
                      | refine ⟨SlB.mk (by first | omega | decide) (by first | omega | decide) (by first | omega | decide), ?_⟩
                      | refine ⟨ShB.mk (by first | decide | omega), ?_⟩
                      | refine ⟨NzB.mk (by first | decide | omega), ?_⟩
                      | refine ⟨by decide, MkB.mk (by omega) (by omega) (by omega) (by omega), ?_⟩
                      | refine ⟨trivial, ?_⟩
                      | refine ⟨by decide, rfl, by decide, ?_⟩
                      | refine .inr ⟨by decide, _, _, _, _, _, rfl, rfl, Fits.mk (by first | exact Nat.le_of_ble_eq_true rfl | omega), ?_⟩
                      | refine .inr ⟨by decide, by decide, Room.mk (by decide) (by decide), ?_⟩
                      | refine .inr ⟨by decide, _, _, _, _, _, rfl, rfl, Room.mk (by omega) (by omega), .inr (.inr ⟨(by omega), rfl, rfl, rfl, (by first | omega | (simp; done) | (simp; omega)), (by omega), rfl, ?_⟩)⟩
                      | refine ⟨by decide, ?_⟩
                      | refine ⟨subHi_le _ _ _, ?_⟩
                      | refine ⟨_, rfl, ?_⟩
                      | fail
                    first
                      | rfl
                      | exact congrArg Value.bool (decide_eq_true rfl)
                      | exact congrArg Value.bool ev_same
                · rcases q3 with ⟨rfl, rfl, rfl⟩ | ⟨rfl, rfl⟩
                  ·
                    repeat' first
                      | refine brP.tD (by omega) ?_
                      | refine brP.fD (by omega) ?_
                      | refine brP.tN (by omega) ?_
                      | refine brP.fN (by omega) ?_
                      | refine brP.fD (Int.not_lt.mpr r3) ?_
                      | refine brP.fD (Int.not_lt.mpr r4) ?_
                      | refine (aw).call ?_
                      | refine .inl ⟨_, aw, ?_⟩
                      | refine (p1).call ?_
                      | refine .inl ⟨_, p1, ?_⟩
                      | refine (p2).call ?_
                      | refine .inl ⟨_, p2, ?_⟩
                      | refine (p3).call ?_
                      | refine .inl ⟨_, p3, ?_⟩
                      | refine (p4).call ?_
                      | refine .inl ⟨_, p4, ?_⟩
                      | refine (x0).call ?_
                      | refine .inl ⟨_, x0, ?_⟩
                      | refine (x1).call ?_
                      | refine .inl ⟨_, x1, ?_⟩
                      | refine (x2).call ?_
                      | refine .inl ⟨_, x2, ?_⟩
                      | refine (x3).call ?_
                      | refine .inl ⟨_, x3, ?_⟩
                      | refine (y0).call ?_
                      | refine .inl ⟨_, y0, ?_⟩
                      | refine (y1).call ?_
                      | refine .inl ⟨_, y1, ?_⟩
                      | refine (y2).call ?_
                      | refine .inl ⟨_, y2, ?_⟩
                      | refine (y3).call ?_
                      | refine .inl ⟨_, y3, ?_⟩
                      | refine (mp).call ?_
                      | refine .inl ⟨_, mp, ?_⟩
                      | refine (cl).call ?_
                      | refine .inl ⟨_, cl, ?_⟩
                      | refine brP.f (congrArg not ev_same) ?_
                      | refine brP.t ev_same ?_
                      | (apply Here.norm; (first | dsimp only [Env.putR, argEnv, pure1, newPtr, applyE, hset, List.length_cons, List.length_nil, List.length_append, List.set, List.cons_append, List.nil_append] | rfl); (first | dsimp only [Env.putR, argEnv, pure1, newPtr, applyE, hset, List.length_cons, List.length_nil, List.length_append, List.set, List.cons_append, List.nil_append] | rfl))
                      | refine brP.t (by assumption) ?_
                      | refine brP.f (by assumption) ?_
                      | refine brP.tD (by assumption) ?_
                      | refine brP.fD (by assumption) ?_
                      | refine brP.tN (by assumption) ?_
                      | refine brP.fN (by assumption) ?_
                      | refine brP.introD (fun h => ?_) (fun h => ?_)
                      | refine brP.introN (fun h => ?_) (fun h => ?_)
                      | refine brP.intro (fun h => ?_) (fun h => ?_)
                      | refine ⟨_, _, _, _, _, rfl, rfl, rfl, Fits.mk (by first | exact Nat.le_of_ble_eq_true rfl | (dsimp only; omega)), rfl, ?_⟩
                      | refine ⟨_, _, _, _, _, rfl, _, rfl, ?_⟩
                      | refine ⟨_, _, _, _, _, rfl, Fits.mk (by first | exact Nat.le_of_ble_eq_true rfl | (dsimp only; omega)), _, rfl, ?_⟩
                      | refine ⟨Fits.mk (by first | exact Nat.le_of_ble_eq_true rfl | (dsimp only; omega)), _, rfl, ?_⟩
                      | refine draw_go (C_ok W0) (by kernel_rfl) ?_
                      | refine ⟨cpt_ok (by kernel_rfl), ?_⟩
                      | refine ⟨InB.mk (by first | decide | omega) (by first | decide | omega), ?_⟩
                      | refine ⟨SlB.mk (by first | omega | decide) (by first | omega | decide) (by first | omega | decide), ?_⟩
                      | refine ⟨ShB.mk (by first | decide | omega), ?_⟩
                      | refine ⟨NzB.mk (by first | decide | omega), ?_⟩
                      | refine ⟨by decide, MkB.mk (by omega) (by omega) (by omega) (by omega), ?_⟩
                      | refine ⟨trivial, ?_⟩
                      | refine ⟨by decide, rfl, by decide, ?_⟩
                      | refine .inr ⟨by decide, _, _, _, _, _, rfl, rfl, Fits.mk (by first | exact Nat.le_of_ble_eq_true rfl | omega), ?_⟩
                      | refine .inr ⟨by decide, by decide, Room.mk (by decide) (by decide), ?_⟩
                      | refine .inr ⟨by decide, _, _, _, _, _, rfl, rfl, Room.mk (by omega) (by omega), .inr (.inr ⟨(by omega), rfl, rfl, rfl, (by first | omega | (simp; done) | (simp; omega)), (by omega), rfl, ?_⟩)⟩
                      | refine ⟨by decide, ?_⟩
                      | refine ⟨subHi_le _ _ _, ?_⟩
                      | refine ⟨_, rfl, ?_⟩
                      | fail
                    first
                      | rfl
                      | exact congrArg Value.bool (decide_eq_true rfl)
                      | exact congrArg Value.bool ev_same
                  ·
                    repeat' first
                      | refine brP.tD (by omega) ?_
                      | refine brP.fD (by omega) ?_
                      | refine brP.tN (by omega) ?_
                      | refine brP.fN (by omega) ?_
                      | refine brP.fD (Int.not_lt.mpr r3) ?_
                      | refine brP.fD (Int.not_lt.mpr r4) ?_
                      | refine (aw).call ?_
                      | refine .inl ⟨_, aw, ?_⟩
                      | refine (p1).call ?_
                      | refine .inl ⟨_, p1, ?_⟩
                      | refine (p2).call ?_
                      | refine .inl ⟨_, p2, ?_⟩
                      | refine (p3).call ?_
                      | refine .inl ⟨_, p3, ?_⟩
                      | refine (p4).call ?_
                      | refine .inl ⟨_, p4, ?_⟩
                      | refine (x0).call ?_
                      | refine .inl ⟨_, x0, ?_⟩
                      | refine (x1).call ?_
                      | refine .inl ⟨_, x1, ?_⟩
                      | refine (x2).call ?_
                      | refine .inl ⟨_, x2, ?_⟩
                      | refine (x3).call ?_
                      | refine .inl ⟨_, x3, ?_⟩
                      | refine (y0).call ?_
                      | refine .inl ⟨_, y0, ?_⟩
                      | refine (y1).call ?_
                      | refine .inl ⟨_, y1, ?_⟩
                      | refine (y2).call ?_
                      | refine .inl ⟨_, y2, ?_⟩
                      | refine (y3).call ?_
                      | refine .inl ⟨_, y3, ?_⟩
                      | refine (mp).call ?_
                      | refine .inl ⟨_, mp, ?_⟩
                      | refine (cl).call ?_
                      | refine .inl ⟨_, cl, ?_⟩
                      | refine brP.f (congrArg not ev_same) ?_
                      | refine brP.t ev_same ?_
                      | (apply Here.norm; (first | dsimp only [Env.putR, argEnv, pure1, newPtr, applyE, hset, List.length_cons, List.length_nil, List.length_append, List.set, List.cons_append, List.nil_append] | rfl); (first | dsimp only [Env.putR, argEnv, pure1, newPtr, applyE, hset, List.length_cons, List.length_nil, List.length_append, List.set, List.cons_append, List.nil_append] | rfl))
                      | refine brP.t (by assumption) ?_
                      | refine brP.f (by assumption) ?_
                      | refine brP.tD (by assumption) ?_
                      | refine brP.fD (by assumption) ?_
                      | refine brP.tN (by assumption) ?_
                      | refine brP.fN (by assumption) ?_
                      | refine brP.introD (fun h => ?_) (fun h => ?_)
                      | refine brP.introN (fun h => ?_) (fun h => ?_)
                      | refine brP.intro (fun h => ?_) (fun h => ?_)
                      | refine ⟨_, _, _, _, _, rfl, rfl, rfl, Fits.mk (by first | exact Nat.le_of_ble_eq_true rfl | (dsimp only; omega)), rfl, ?_⟩
                      | refine ⟨_, _, _, _, _, rfl, _, rfl, ?_⟩
                      | refine ⟨_, _, _, _, _, rfl, Fits.mk (by first | exact Nat.le_of_ble_eq_true rfl | (dsimp only; omega)), _, rfl, ?_⟩
                      | refine ⟨Fits.mk (by first | exact Nat.le_of_ble_eq_true rfl | (dsimp only; omega)), _, rfl, ?_⟩
                      | refine draw_go (C_ok W0) (by kernel_rfl) ?_
                      | refine ⟨cpt_ok (by kernel_rfl), ?_⟩
                      | refine ⟨InB.mk (by first | decide | omega) (by first | decide | omega), ?_⟩
                      | refine ⟨SlB.mk (by first | omega | decide) (by first | omega | decide) (by first | omega | decide), ?_⟩
                      | refine ⟨ShB.mk (by first | decide | omega), ?_⟩
                      | refine ⟨NzB.mk (by first | decide | omega), ?_⟩
                      | refine ⟨by decide, MkB.mk (by omega) (by omega) (by omega) (by omega), ?_⟩
                      | refine ⟨trivial, ?_⟩
                      | refine ⟨by decide, rfl, by decide, ?_⟩
                      | refine .inr ⟨by decide, _, _, _, _, _, rfl, rfl, Fits.mk (by first | exact Nat.le_of_ble_eq_true rfl | omega), ?_⟩
                      | refine .inr ⟨by decide, by decide, Room.mk (by decide) (by decide), ?_⟩
                      | refine .inr ⟨by decide, _, _, _, _, _, rfl, rfl, Room.mk (by omega) (by omega), .inr (.inr ⟨(by omega), rfl, rfl, rfl, (by first | omega | (simp; done) | (simp; omega)), (by omega), rfl, ?_⟩)⟩
                      | refine ⟨by decide, ?_⟩
                      | refine ⟨subHi_le _ _ _, ?_⟩
                      | refine ⟨_, rfl, ?_⟩
                      | fail
                    first
                      | rfl
                      | exact congrArg Value.bool (decide_eq_true rfl)
                      | exact congrArg Value.bool ev_same
              · rcases q2 with ⟨rfl, tt, rfl, r3, r4⟩ | rfl
                · rcases q3 with ⟨rfl, rfl, rfl⟩ | ⟨rfl, rfl⟩
                  ·
                    repeat' first
                      | refine brP.tD (by omega) ?_
                      | refine brP.fD (by omega) ?_
                      | refine brP.tN (by omega) ?_
                      | refine brP.fN (by omega) ?_
                      | refine brP.fD (Int.not_lt.mpr r3) ?_
                      | refine brP.fD (Int.not_lt.mpr r4) ?_
                      | refine (aw).call ?_
                      | refine .inl ⟨_, aw, ?_⟩
                      | refine (p1).call ?_
                      | refine .inl ⟨_, p1, ?_⟩
                      | refine (p2).call ?_
                      | refine .inl ⟨_, p2, ?_⟩
                      | refine (p3).call ?_
                      | refine .inl ⟨_, p3, ?_⟩
                      | refine (p4).call ?_
                      | refine .inl ⟨_, p4, ?_⟩
                      | refine (x0).call ?_
                      | refine .inl ⟨_, x0, ?_⟩
                      | refine (x1).call ?_
                      | refine .inl ⟨_, x1, ?_⟩
                      | refine (x2).call ?_
                      | refine .inl ⟨_, x2, ?_⟩
                      | refine (x3).call ?_
                      | refine .inl ⟨_, x3, ?_⟩
                      | refine (y0).call ?_
                      | refine .inl ⟨_, y0, ?_⟩
                      | refine (y1).call ?_
                      | refine .inl ⟨_, y1, ?_⟩
                      | refine (y2).call ?_
                      | refine .inl ⟨_, y2, ?_⟩
                      | refine (y3).call ?_
                      | refine .inl ⟨_, y3, ?_⟩
                      | refine (mp).call ?_
                      | refine .inl ⟨_, mp, ?_⟩
                      | refine (cl).call ?_
                      | refine .inl ⟨_, cl, ?_⟩
                      | refine brP.f (congrArg not ev_same) ?_
                      | refine brP.t ev_same ?_
                      | (apply Here.norm; (first | dsimp only [Env.putR, argEnv, pure1, newPtr, applyE, hset, List.length_cons, List.length_nil, List.length_append, List.set, List.cons_append, List.nil_append] | rfl); (first | dsimp only [Env.putR, argEnv, pure1, newPtr, applyE, hset, List.length_cons, List.length_nil, List.length_append, List.set, List.cons_append, List.nil_append] | rfl))
                      | refine brP.t (by assumption) ?_
                      | refine brP.f (by assumption) ?_
                      | refine brP.tD (by assumption) ?_
                      | refine brP.fD (by assumption) ?_
                      | refine brP.tN (by assumption) ?_
                      | refine brP.fN (by assumption) ?_
                      | refine brP.introD (fun h => ?_) (fun h => ?_)
                      | refine brP.introN (fun h => ?_) (fun h => ?_)
                      | refine brP.intro (fun h => ?_) (fun h => ?_)
                      | refine ⟨_, _, _, _, _, rfl, rfl, rfl, Fits.mk (by first | exact Nat.le_of_ble_eq_true rfl | (dsimp only; omega)), rfl, ?_⟩
                      | refine ⟨_, _, _, _, _, rfl, _, rfl, ?_⟩
                      | refine ⟨_, _, _, _, _, rfl, Fits.mk (by first | exact Nat.le_of_ble_eq_true rfl | (dsimp only; omega)), _, rfl, ?_⟩
                      | refine ⟨Fits.mk (by first | exact Nat.le_of_ble_eq_true rfl | (dsimp only; omega)), _, rfl, ?_⟩
                      | refine draw_go (C_ok W0) (by kernel_rfl) ?_
                      | refine ⟨cpt_ok (by kernel_rfl), ?_⟩
                      | refine ⟨InB.mk (by first | decide | omega) (by first | decide | omega), ?_⟩
                      | refine ⟨SlB.mk (by first | omega | decide) (by first | omega | decide) (by first | omega | decide), ?_⟩
                      | refine ⟨ShB.mk (by first | decide | omega), ?_⟩
                      | refine ⟨NzB.mk (by first | decide | omega), ?_⟩
                      | refine ⟨by decide, MkB.mk (by omega) (by omega) (by omega) (by omega), ?_⟩
                      | refine ⟨trivial, ?_⟩
                      | refine ⟨by decide, rfl, by decide, ?_⟩
                      | refine .inr ⟨by decide, _, _, _, _, _, rfl, rfl, Fits.mk (by first | exact Nat.le_of_ble_eq_true rfl | omega), ?_⟩
                      | refine .inr ⟨by decide, by decide, Room.mk (by decide) (by decide), ?_⟩
                      | refine .inr ⟨by decide, _, _, _, _, _, rfl, rfl, Room.mk (by omega) (by omega), .inr (.inr ⟨(by omega), rfl, rfl, rfl, (by first | omega | (simp; done) | (simp; omega)), (by omega), rfl, ?_⟩)⟩
                      | refine ⟨by decide, ?_⟩
                      | refine ⟨subHi_le _ _ _, ?_⟩
                      | refine ⟨_, rfl, ?_⟩
                      | fail
                    first
                      | rfl
                      | exact congrArg Value.bool (decide_eq_true rfl)
                      | exact congrArg Value.bool ev_same
                  ·
                    repeat' first
                      | refine brP.tD (by omega) ?_
                      | refine brP.fD (by omega) ?_
                      | refine brP.tN (by omega) ?_
                      | refine brP.fN (by omega) ?_
                      | refine brP.fD (Int.not_lt.mpr r3) ?_
                      | refine brP.fD (Int.not_lt.mpr r4) ?_
                      | refine (aw).call ?_
                      | refine .inl ⟨_, aw, ?_⟩
                      | refine (p1).call ?_
                      | refine .inl ⟨_, p1, ?_⟩
                      | refine (p2).call ?_
                      | refine .inl ⟨_, p2, ?_⟩
                      | refine (p3).call ?_
                      | refine .inl ⟨_, p3, ?_⟩
                      | refine (p4).call ?_
                      | refine .inl ⟨_, p4, ?_⟩
                      | refine (x0).call ?_
                      | refine .inl ⟨_, x0, ?_⟩
                      | refine (x1).call ?_
                      | refine .inl ⟨_, x1, ?_⟩
                      | refine (x2).call ?_
                      | refine .inl ⟨_, x2, ?_⟩
                      | refine (x3).call ?_
                      | refine .inl ⟨_, x3, ?_⟩
                      | refine (y0).call ?_
                      | refine .inl ⟨_, y0, ?_⟩
                      | refine (y1).call ?_
                      | refine .inl ⟨_, y1, ?_⟩
                      | refine (y2).call ?_
                      | refine .inl ⟨_, y2, ?_⟩
                      | refine (y3).call ?_
                      | refine .inl ⟨_, y3, ?_⟩
                      | refine (mp).call ?_
                      | refine .inl ⟨_, mp, ?_⟩
                      | refine (cl).call ?_
                      | refine .inl ⟨_, cl, ?_⟩
                      | refine brP.f (congrArg not ev_same) ?_
                      | refine brP.t ev_same ?_
                      | (apply Here.norm; (first | dsimp only [Env.putR, argEnv, pure1, newPtr, applyE, hset, List.length_cons, List.length_nil, List.length_append, List.set, List.cons_append, List.nil_append] | rfl); (first | dsimp only [Env.putR, argEnv, pure1, newPtr, applyE, hset, List.length_cons, List.length_nil, List.length_append, List.set, List.cons_append, List.nil_append] | rfl))
                      | refine brP.t (by assumption) ?_
                      | refine brP.f (by assumption) ?_
                      | refine brP.tD (by assumption) ?_
                      | refine brP.fD (by assumption) ?_
                      | refine brP.tN (by assumption) ?_
                      | refine brP.fN (by assumption) ?_
                      | refine brP.introD (fun h => ?_) (fun h => ?_)
                      | refine brP.introN (fun h => ?_) (fun h => ?_)
                      | refine brP.intro (fun h => ?_) (fun h => ?_)
                      | refine ⟨_, _, _, _, _, rfl, rfl, rfl, Fits.mk (by first | exact Nat.le_of_ble_eq_true rfl | (dsimp only; omega)), rfl, ?_⟩
                      | refine ⟨_, _, _, _, _, rfl, _, rfl, ?_⟩
                      | refine ⟨_, _, _, _, _, rfl, Fits.mk (by first | exact Nat.le_of_ble_eq_true rfl | (dsimp only; omega)), _, rfl, ?_⟩
                      | refine ⟨Fits.mk (by first | exact Nat.le_of_ble_eq_true rfl | (dsimp only; omega)), _, rfl, ?_⟩
                      | refine draw_go (C_ok W0) (by kernel_rfl) ?_
                      | refine ⟨cpt_ok (by kernel_rfl), ?_⟩
                      | refine ⟨InB.mk (by first | decide | omega) (by first | decide | omega), ?_⟩
                      | refine ⟨SlB.mk (by first | omega | decide) (by first | omega | decide) (by first | omega | decide), ?_⟩
                      | refine ⟨ShB.mk (by first | decide | omega), ?_⟩
                      | refine ⟨NzB.mk (by first | decide | omega), ?_⟩
                      | refine ⟨by decide, MkB.mk (by omega) (by omega) (by omega) (by omega), ?_⟩
                      | refine ⟨trivial, ?_⟩
                      | refine ⟨by decide, rfl, by decide, ?_⟩
                      | refine .inr ⟨by decide, _, _, _, _, _, rfl, rfl, Fits.mk (by first | exact Nat.le_of_ble_eq_true rfl | omega), ?_⟩
                      | refine .inr ⟨by decide, by decide, Room.mk (by decide) (by decide), ?_⟩
                      | refine .inr ⟨by decide, _, _, _, _, _, rfl, rfl, Room.mk (by omega) (by omega), .inr (.inr ⟨(by omega), rfl, rfl, rfl, (by first | omega | (simp; done) | (simp; omega)), (by omega), rfl, ?_⟩)⟩
                      | refine ⟨by decide, ?_⟩
                      | refine ⟨subHi_le _ _ _, ?_⟩
                      | refine ⟨_, rfl, ?_⟩
                      | fail
                    first
                      | rfl
                      | exact congrArg Value.bool (decide_eq_true rfl)
                      | exact congrArg Value.bool ev_same
                · rcases q3 with ⟨rfl, rfl, rfl⟩ | ⟨rfl, rfl⟩
                  ·
                    repeat' first
                      | refine brP.tD (by omega) ?_
                      | refine brP.fD (by omega) ?_
                      | refine brP.tN (by omega) ?_
                      | refine brP.fN (by omega) ?_
                      | refine brP.fD (Int.not_lt.mpr r3) ?_
                      | refine brP.fD (Int.not_lt.mpr r4) ?_
                      | refine (aw).call ?_
                      | refine .inl ⟨_, aw, ?_⟩
                      | refine (p1).call ?_
                      | refine .inl ⟨_, p1, ?_⟩
                      | refine (p2).call ?_
                      | refine .inl ⟨_, p2, ?_⟩
                      | refine (p3).call ?_
                      | refine .inl ⟨_, p3, ?_⟩
                      | refine (p4).call ?_
                      | refine .inl ⟨_, p4, ?_⟩
                      | refine (x0).call ?_
                      | refine .inl ⟨_, x0, ?_⟩
                      | refine (x1).call ?_
                      | refine .inl ⟨_, x1, ?_⟩
                      | refine (x2).call ?_
                      | refine .inl ⟨_, x2, ?_⟩
                      | refine (x3).call ?_
                      | refine .inl ⟨_, x3, ?_⟩
                      | refine (y0).call ?_
                      | refine .inl ⟨_, y0, ?_⟩
                      | refine (y1).call ?_
                      | refine .inl ⟨_, y1, ?_⟩
                      | refine (y2).call ?_
                      | refine .inl ⟨_, y2, ?_⟩
                      | refine (y3).call ?_
                      | refine .inl ⟨_, y3, ?_⟩
                      | refine (mp).call ?_
                      | refine .inl ⟨_, mp, ?_⟩
                      | refine (cl).call ?_
                      | refine .inl ⟨_, cl, ?_⟩
                      | refine brP.f (congrArg not ev_same) ?_
                      | refine brP.t ev_same ?_
                      | (apply Here.norm; (first | dsimp only [Env.putR, argEnv, pure1, newPtr, applyE, hset, List.length_cons, List.length_nil, List.length_append, List.set, List.cons_append, List.nil_append] | rfl); (first | dsimp only [Env.putR, argEnv, pure1, newPtr, applyE, hset, List.length_cons, List.length_nil, List.length_append, List.set, List.cons_append, List.nil_append] | rfl))
                      | refine brP.t (by assumption) ?_
                      | refine brP.f (by assumption) ?_
                      | refine brP.tD (by assumption) ?_
                      | refine brP.fD (by assumption) ?_
                      | refine brP.tN (by assumption) ?_
                      | refine brP.fN (by assumption) ?_
                      | refine brP.introD (fun h => ?_) (fun h => ?_)
                      | refine brP.introN (fun h => ?_) (fun h => ?_)
                      | refine brP.intro (fun h => ?_) (fun h => ?_)
                      | refine ⟨_, _, _, _, _, rfl, rfl, rfl, Fits.mk (by first | exact Nat.le_of_ble_eq_true rfl | (dsimp only; omega)), rfl, ?_⟩
                      | refine ⟨_, _, _, _, _, rfl, _, rfl, ?_⟩
                      | refine ⟨_, _, _, _, _, rfl, Fits.mk (by first | exact Nat.le_of_ble_eq_true rfl | (dsimp only; omega)), _, rfl, ?_⟩
                      | refine ⟨Fits.mk (by first | exact Nat.le_of_ble_eq_true rfl | (dsimp only; omega)), _, rfl, ?_⟩
                      | refine draw_go (C_ok W0) (by kernel_rfl) ?_
                      | refine ⟨cpt_ok (by kernel_rfl), ?_⟩
                      | refine ⟨InB.mk (by first | decide | omega) (by first | decide | omega), ?_⟩
                      | refine ⟨SlB.mk (by first | omega | decide) (by first | omega | decide) (by first | omega | decide), ?_⟩
                      | refine ⟨ShB.mk (by first | decide | omega), ?_⟩
                      | refine ⟨NzB.mk (by first | decide | omega), ?_⟩
                      | refine ⟨by decide, MkB.mk (by omega) (by omega) (by omega) (by omega), ?_⟩
                      | refine ⟨trivial, ?_⟩
                      | refine ⟨by decide, rfl, by decide, ?_⟩
                      | refine .inr ⟨by decide, _, _, _, _, _, rfl, rfl, Fits.mk (by first | exact Nat.le_of_ble_eq_true rfl | omega), ?_⟩
                      | refine .inr ⟨by decide, by decide, Room.mk (by decide) (by decide), ?_⟩
                      | refine .inr ⟨by decide, _, _, _, _, _, rfl, rfl, Room.mk (by omega) (by omega), .inr (.inr ⟨(by omega), rfl, rfl, rfl, (by first | omega | (simp; done) | (simp; omega)), (by omega), rfl, ?_⟩)⟩
                      | refine ⟨by decide, ?_⟩
                      | refine ⟨subHi_le _ _ _, ?_⟩
                      | refine ⟨_, rfl, ?_⟩
                      | fail
                    first
                      | rfl
                      | exact congrArg Value.bool (decide_eq_true rfl)
                      | exact congrArg Value.bool ev_same
                  ·
                    repeat' first
                      | refine brP.tD (by omega) ?_
                      | refine brP.fD (by omega) ?_
                      | refine brP.tN (by omega) ?_
                      | refine brP.fN (by omega) ?_
                      | refine brP.fD (Int.not_lt.mpr r3) ?_
                      | refine brP.fD (Int.not_lt.mpr r4) ?_
                      | refine (aw).call ?_
                      | refine .inl ⟨_, aw, ?_⟩
                      | refine (p1).call ?_
                      | refine .inl ⟨_, p1, ?_⟩
                      | refine (p2).call ?_
                      | refine .inl ⟨_, p2, ?_⟩
                      | refine (p3).call ?_
                      | refine .inl ⟨_, p3, ?_⟩
                      | refine (p4).call ?_
                      | refine .inl ⟨_, p4, ?_⟩
                      | refine (x0).call ?_
                      | refine .inl ⟨_, x0, ?_⟩
                      | refine (x1).call ?_
                      | refine .inl ⟨_, x1, ?_⟩
                      | refine (x2).call ?_
                      | refine .inl ⟨_, x2, ?_⟩
                      | refine (x3).call ?_
                      | refine .inl ⟨_, x3, ?_⟩
                      | refine (y0).call ?_
                      | refine .inl ⟨_, y0, ?_⟩
                      | refine (y1).call ?_
                      | refine .inl ⟨_, y1, ?_⟩
                      | refine (y2).call ?_
                      | refine .inl ⟨_, y2, ?_⟩
                      | refine (y3).call ?_
                      | refine .inl ⟨_, y3, ?_⟩
                      | refine (mp).call ?_
                      | refine .inl ⟨_, mp, ?_⟩
                      | refine (cl).call ?_
                      | refine .inl ⟨_, cl, ?_⟩
                      | refine brP.f (congrArg not ev_same) ?_
                      | refine brP.t ev_same ?_
                      | (apply Here.norm; (first | dsimp only [Env.putR, argEnv, pure1, newPtr, applyE, hset, List.length_cons, List.length_nil, List.length_append, List.set, List.cons_append, List.nil_append] | rfl); (first | dsimp only [Env.putR, argEnv, pure1, newPtr, applyE, hset, List.length_cons, List.length_nil, List.length_append, List.set, List.cons_append, List.nil_append] | rfl))
                      | refine brP.t (by assumption) ?_
                      | refine brP.f (by assumption) ?_
                      | refine brP.tD (by assumption) ?_
                      | refine brP.fD (by assumption) ?_
                      | refine brP.tN (by assumption) ?_
                      | refine brP.fN (by assumption) ?_
                      | refine brP.introD (fun h => ?_) (fun h => ?_)
                      | refine brP.introN (fun h => ?_) (fun h => ?_)
                      | refine brP.intro (fun h => ?_) (fun h => ?_)
                      | refine ⟨_, _, _, _, _, rfl, rfl, rfl, Fits.mk (by first | exact Nat.le_of_ble_eq_true rfl | (dsimp only; omega)), rfl, ?_⟩
                      | refine ⟨_, _, _, _, _, rfl, _, rfl, ?_⟩
                      | refine ⟨_, _, _, _, _, rfl, Fits.mk (by first | exact Nat.le_of_ble_eq_true rfl | (dsimp only; omega)), _, rfl, ?_⟩
                      | refine ⟨Fits.mk (by first | exact Nat.le_of_ble_eq_true rfl | (dsimp only; omega)), _, rfl, ?_⟩
                      | refine draw_go (C_ok W0) (by kernel_rfl) ?_
                      | refine ⟨cpt_ok (by kernel_rfl), ?_⟩
                      | refine ⟨InB.mk (by first | decide | omega) (by first | decide | omega), ?_⟩
                      | refine ⟨SlB.mk (by first | omega | decide) (by first | omega | decide) (by first | omega | decide), ?_⟩
                      | refine ⟨ShB.mk (by first | decide | omega), ?_⟩
                      | refine ⟨NzB.mk (by first | decide | omega), ?_⟩
                      | refine ⟨by decide, MkB.mk (by omega) (by omega) (by omega) (by omega), ?_⟩
                      | refine ⟨trivial, ?_⟩
                      | refine ⟨by decide, rfl, by decide, ?_⟩
                      | refine .inr ⟨by decide, _, _, _, _, _, rfl, rfl, Fits.mk (by first | exact Nat.le_of_ble_eq_true rfl | omega), ?_⟩
                      | refine .inr ⟨by decide, by decide, Room.mk (by decide) (by decide), ?_⟩
                      | refine .inr ⟨by decide, _, _, _, _, _, rfl, rfl, Room.mk (by omega) (by omega), .inr (.inr ⟨(by omega), rfl, rfl, rfl, (by first | omega | (simp; done) | (simp; omega)), (by omega), rfl, ?_⟩)⟩
                      | refine ⟨by decide, ?_⟩
                      | refine ⟨subHi_le _ _ _, ?_⟩
                      | refine ⟨_, rfl, ?_⟩
                      | fail
                    first
                      | rfl
                      | exact congrArg Value.bool (decide_eq_true rfl)
                      | exact congrArg Value.bool ev_same
            ·
              repeat' first
                | refine brP.tD (by omega) ?_
                | refine brP.fD (by omega) ?_
                | refine brP.tN (by omega) ?_
                | refine brP.fN (by omega) ?_
                | refine (aw).call ?_
                | refine .inl ⟨_, aw, ?_⟩
                | refine (p1).call ?_
                | refine .inl ⟨_, p1, ?_⟩
                | refine (p2).call ?_
                | refine .inl ⟨_, p2, ?_⟩
                | refine (p3).call ?_
                | refine .inl ⟨_, p3, ?_⟩
                | refine (p4).call ?_
                | refine .inl ⟨_, p4, ?_⟩
                | refine (x0).call ?_
                | refine .inl ⟨_, x0, ?_⟩
                | refine (y0).call ?_
                | refine .inl ⟨_, y0, ?_⟩
                | (apply Here.norm; (first | dsimp only [Env.putR, argEnv, pure1, newPtr, applyE, hset, List.length_cons, List.length_nil, List.length_append, List.set, List.cons_append, List.nil_append] | rfl); (first | dsimp only [Env.putR, argEnv, pure1, newPtr, applyE, hset, List.length_cons, List.length_nil, List.length_append, List.set, List.cons_append, List.nil_append] | rfl))
                | refine brP.t (by assumption) ?_
                | refine brP.f (by assumption) ?_
                | refine brP.tD (by assumption) ?_
                | refine brP.fD (by assumption) ?_
                | refine brP.tN (by assumption) ?_
                | refine brP.fN (by assumption) ?_
                | refine brP.introD (fun h => ?_) (fun h => ?_)
                | refine brP.introN (fun h => ?_) (fun h => ?_)
                | refine brP.intro (fun h => ?_) (fun h => ?_)
                | refine ⟨_, _, _, _, _, rfl, rfl, rfl, Fits.mk (by first | exact Nat.le_of_ble_eq_true rfl | (dsimp only; omega)), rfl, ?_⟩
                | refine ⟨_, _, _, _, _, rfl, _, rfl, ?_⟩
                | refine ⟨_, _, _, _, _, rfl, Fits.mk (by first | exact Nat.le_of_ble_eq_true rfl | (dsimp only; omega)), _, rfl, ?_⟩
                | refine ⟨Fits.mk (by first | exact Nat.le_of_ble_eq_true rfl | (dsimp only; omega)), _, rfl, ?_⟩
                | refine draw_go (C_ok W0) (by kernel_rfl) ?_
                | refine ⟨cpt_ok (by kernel_rfl), ?_⟩
                | refine ⟨InB.mk (by first | decide | omega) (by first | decide | omega), ?_⟩
                | refine ⟨SlB.mk (by first | omega | decide) (by first | omega | decide) (by first | omega | decide), ?_⟩
                | refine ⟨ShB.mk (by first | decide | omega), ?_⟩
                | refine ⟨NzB.mk (by first | decide | omega), ?_⟩
                | refine ⟨by decide, MkB.mk (by omega) (by omega) (by omega) (by omega), ?_⟩
                | refine ⟨trivial, ?_⟩
                | refine ⟨by decide, rfl, by decide, ?_⟩
                | refine .inr ⟨by decide, _, _, _, _, _, rfl, rfl, Fits.mk (by first | exact Nat.le_of_ble_eq_true rfl | omega), ?_⟩
                | refine .inr ⟨by decide, by decide, Room.mk (by decide) (by decide), ?_⟩
                | refine .inr ⟨by decide, _, _, _, _, _, rfl, rfl, Room.mk (by omega) (by omega), .inr (.inr ⟨(by omega), rfl, rfl, rfl, (by first | omega | (simp; done) | (simp; omega)), (by omega), rfl, ?_⟩)⟩
                | refine ⟨by decide, ?_⟩
                | refine ⟨subHi_le _ _ _, ?_⟩
                | refine ⟨_, rfl, ?_⟩
                | fail
              rfl
          ·
            repeat' first
              | refine brP.tD (by omega) ?_
              | refine brP.fD (by omega) ?_
              | refine brP.tN (by omega) ?_
              | refine brP.fN (by omega) ?_
              | refine (aw).call ?_
              | refine .inl ⟨_, aw, ?_⟩
              | refine (p1).call ?_
              | refine .inl ⟨_, p1, ?_⟩
              | refine (p2).call ?_
              | refine .inl ⟨_, p2, ?_⟩
              | refine (p3).call ?_
              | refine .inl ⟨_, p3, ?_⟩
              | refine (p4).call ?_
              | refine .inl ⟨_, p4, ?_⟩
              | (apply Here.norm; (first | dsimp only [Env.putR, argEnv, pure1, newPtr, applyE, hset, List.length_cons, List.length_nil, List.length_append, List.set, List.cons_append, List.nil_append] | rfl); (first | dsimp only [Env.putR, argEnv, pure1, newPtr, applyE, hset, List.length_cons, List.length_nil, List.length_append, List.set, List.cons_append, List.nil_append] | rfl))
              | refine brP.t (by assumption) ?_
              | refine brP.f (by assumption) ?_
              | refine brP.tD (by assumption) ?_
              | refine brP.fD (by assumption) ?_
              | refine brP.tN (by assumption) ?_
              | refine brP.fN (by assumption) ?_
              | refine brP.introD (fun h => ?_) (fun h => ?_)
              | refine brP.introN (fun h => ?_) (fun h => ?_)
              | refine brP.intro (fun h => ?_) (fun h => ?_)
              | refine ⟨_, _, _, _, _, rfl, rfl, rfl, Fits.mk (by first | exact Nat.le_of_ble_eq_true rfl | (dsimp only; omega)), rfl, ?_⟩
              | refine ⟨_, _, _, _, _, rfl, _, rfl, ?_⟩
              | refine ⟨_, _, _, _, _, rfl, Fits.mk (by first | exact Nat.le_of_ble_eq_true rfl | (dsimp only; omega)), _, rfl, ?_⟩
              | refine ⟨Fits.mk (by first | exact Nat.le_of_ble_eq_true rfl | (dsimp only; omega)), _, rfl, ?_⟩
              | refine draw_go (C_ok W0) (by kernel_rfl) ?_
              | refine ⟨cpt_ok (by kernel_rfl), ?_⟩
              | refine ⟨InB.mk (by first | decide | omega) (by first | decide | omega), ?_⟩
              | refine ⟨SlB.mk (by first | omega | decide) (by first | omega | decide) (by first | omega | decide), ?_⟩
              | refine ⟨ShB.mk (by first | decide | omega), ?_⟩
              | refine ⟨NzB.mk (by first | decide | omega), ?_⟩
              | refine ⟨by decide, MkB.mk (by omega) (by omega) (by omega) (by omega), ?_⟩
              | refine ⟨trivial, ?_⟩
              | refine ⟨by decide, rfl, by decide, ?_⟩
              | refine .inr ⟨by decide, _, _, _, _, _, rfl, rfl, Fits.mk (by first | exact Nat.le_of_ble_eq_true rfl | omega), ?_⟩
              | refine .inr ⟨by decide, by decide, Room.mk (by decide) (by decide), ?_⟩
              | refine .inr ⟨by decide, _, _, _, _, _, rfl, rfl, Room.mk (by omega) (by omega), .inr (.inr ⟨(by omega), rfl, rfl, rfl, (by first | omega | (simp; done) | (simp; omega)), (by omega), rfl, ?_⟩)⟩
              | refine ⟨by decide, ?_⟩
              | refine ⟨subHi_le _ _ _, ?_⟩
              | refine ⟨_, rfl, ?_⟩
              | fail
            rfl
        · rw [show bareB tm = false by simpa using b4] at p4
          repeat' first
            | refine brP.tD (by omega) ?_
            | refine brP.fD (by omega) ?_
            | refine brP.tN (by omega) ?_
            | refine brP.fN (by omega) ?_
            | refine (aw).call ?_
            | refine .inl ⟨_, aw, ?_⟩
            | refine (p1).call ?_
            | refine .inl ⟨_, p1, ?_⟩
            | refine (p2).call ?_
            | refine .inl ⟨_, p2, ?_⟩
            | refine (p3).call ?_
            | refine .inl ⟨_, p3, ?_⟩
            | refine (p4).call ?_
            | refine .inl ⟨_, p4, ?_⟩
            | (apply Here.norm; (first | dsimp only [Env.putR, argEnv, pure1, newPtr, applyE, hset, List.length_cons, List.length_nil, List.length_append, List.set, List.cons_append, List.nil_append] | rfl); (first | dsimp only [Env.putR, argEnv, pure1, newPtr, applyE, hset, List.length_cons, List.length_nil, List.length_append, List.set, List.cons_append, List.nil_append] | rfl))
            | refine brP.t (by assumption) ?_
            | refine brP.f (by assumption) ?_
            | refine brP.tD (by assumption) ?_
            | refine brP.fD (by assumption) ?_
            | refine brP.tN (by assumption) ?_
            | refine brP.fN (by assumption) ?_
            | refine brP.introD (fun h => ?_) (fun h => ?_)
            | refine brP.introN (fun h => ?_) (fun h => ?_)
            | refine brP.intro (fun h => ?_) (fun h => ?_)
            | refine ⟨_, _, _, _, _, rfl, rfl, rfl, Fits.mk (by first | exact Nat.le_of_ble_eq_true rfl | (dsimp only; omega)), rfl, ?_⟩
            | refine ⟨_, _, _, _, _, rfl, _, rfl, ?_⟩
            | refine ⟨_, _, _, _, _, rfl, Fits.mk (by first | exact Nat.le_of_ble_eq_true rfl | (dsimp only; omega)), _, rfl, ?_⟩
            | refine ⟨Fits.mk (by first | exact Nat.le_of_ble_eq_true rfl | (dsimp only; omega)), _, rfl, ?_⟩
            | refine draw_go (C_ok W0) (by kernel_rfl) ?_
            | refine ⟨cpt_ok (by kernel_rfl), ?_⟩
            | refine ⟨InB.mk (by first | decide | omega) (by first | decide | omega), ?_⟩
            | refine ⟨SlB.mk (by first | omega | decide) (by first | omega | decide) (by first | omega | decide), ?_⟩
            | refine ⟨ShB.mk (by first | decide | omega), ?_⟩
            | refine ⟨NzB.mk (by first | decide | omega), ?_⟩
            | refine ⟨by decide, MkB.mk (by omega) (by omega) (by omega) (by omega), ?_⟩
            | refine ⟨trivial, ?_⟩
            | refine ⟨by decide, rfl, by decide, ?_⟩
            | refine .inr ⟨by decide, _, _, _, _, _, rfl, rfl, Fits.mk (by first | exact Nat.le_of_ble_eq_true rfl | omega), ?_⟩
            | refine .inr ⟨by decide, by decide, Room.mk (by decide) (by decide), ?_⟩
            | refine .inr ⟨by decide, _, _, _, _, _, rfl, rfl, Room.mk (by omega) (by omega), .inr (.inr ⟨(by omega), rfl, rfl, rfl, (by first | omega | (simp; done) | (simp; omega)), (by omega), rfl, ?_⟩)⟩
            | refine ⟨by decide, ?_⟩
            | refine ⟨subHi_le _ _ _, ?_⟩
            | refine ⟨_, rfl, ?_⟩
            | fail
          rfl
      · rw [show bareB rt = false by simpa using b3] at p3
        repeat' first
          | refine brP.tD (by omega) ?_
          | refine brP.fD (by omega) ?_
          | refine brP.tN (by omega) ?_
          | refine brP.fN (by omega) ?_
          | refine (aw).call ?_
          | refine .inl ⟨_, aw, ?_⟩
          | refine (p1).call ?_
          | refine .inl ⟨_, p1, ?_⟩
          | refine (p2).call ?_
          | refine .inl ⟨_, p2, ?_⟩
          | refine (p3).call ?_
          | refine .inl ⟨_, p3, ?_⟩
          | (apply Here.norm; (first | dsimp only [Env.putR, argEnv, pure1, newPtr, applyE, hset, List.length_cons, List.length_nil, List.length_append, List.set, List.cons_append, List.nil_append] | rfl); (first | dsimp only [Env.putR, argEnv, pure1, newPtr, applyE, hset, List.length_cons, List.length_nil, List.length_append, List.set, List.cons_append, List.nil_append] | rfl))
          | refine brP.t (by assumption) ?_
          | refine brP.f (by assumption) ?_
          | refine brP.tD (by assumption) ?_
          | refine brP.fD (by assumption) ?_
          | refine brP.tN (by assumption) ?_
          | refine brP.fN (by assumption) ?_
          | refine brP.introD (fun h => ?_) (fun h => ?_)
          | refine brP.introN (fun h => ?_) (fun h => ?_)
          | refine brP.intro (fun h => ?_) (fun h => ?_)
          | refine ⟨_, _, _, _, _, rfl, rfl, rfl, Fits.mk (by first | exact Nat.le_of_ble_eq_true rfl | (dsimp only; omega)), rfl, ?_⟩
          | refine ⟨_, _, _, _, _, rfl, _, rfl, ?_⟩
          | refine ⟨_, _, _, _, _, rfl, Fits.mk (by first | exact Nat.le_of_ble_eq_true rfl | (dsimp only; omega)), _, rfl, ?_⟩
          | refine ⟨Fits.mk (by first | exact Nat.le_of_ble_eq_true rfl | (dsimp only; omega)), _, rfl, ?_⟩
          | refine draw_go (C_ok W0) (by kernel_rfl) ?_
          | refine ⟨cpt_ok (by kernel_rfl), ?_⟩
          | refine ⟨InB.mk (by first | decide | omega) (by first | decide | omega), ?_⟩
          | refine ⟨SlB.mk (by first | omega | decide) (by first | omega | decide) (by first | omega | decide), ?_⟩
          | refine ⟨ShB.mk (by first | decide | omega), ?_⟩
          | refine ⟨NzB.mk (by first | decide | omega), ?_⟩
          | refine ⟨by decide, MkB.mk (by omega) (by omega) (by omega) (by omega), ?_⟩
          | refine ⟨trivial, ?_⟩
          | refine ⟨by decide, rfl, by decide, ?_⟩
          | refine .inr ⟨by decide, _, _, _, _, _, rfl, rfl, Fits.mk (by first | exact Nat.le_of_ble_eq_true rfl | omega), ?_⟩
          | refine .inr ⟨by decide, by decide, Room.mk (by decide) (by decide), ?_⟩
          | refine .inr ⟨by decide, _, _, _, _, _, rfl, rfl, Room.mk (by omega) (by omega), .inr (.inr ⟨(by omega), rfl, rfl, rfl, (by first | omega | (simp; done) | (simp; omega)), (by omega), rfl, ?_⟩)⟩
          | refine ⟨by decide, ?_⟩
          | refine ⟨subHi_le _ _ _, ?_⟩
          | refine ⟨_, rfl, ?_⟩
          | fail
        rfl
    · rw [show bareB other = false by simpa using b2] at p2
      repeat' first
        | refine brP.tD (by omega) ?_
        | refine brP.fD (by omega) ?_
        | refine brP.tN (by omega) ?_
        | refine brP.fN (by omega) ?_
        | refine (aw).call ?_
        | refine .inl ⟨_, aw, ?_⟩
        | refine (p1).call ?_
        | refine .inl ⟨_, p1, ?_⟩
        | refine (p2).call ?_
        | refine .inl ⟨_, p2, ?_⟩
        | (apply Here.norm; (first | dsimp only [Env.putR, argEnv, pure1, newPtr, applyE, hset, List.length_cons, List.length_nil, List.length_append, List.set, List.cons_append, List.nil_append] | rfl); (first | dsimp only [Env.putR, argEnv, pure1, newPtr, applyE, hset, List.length_cons, List.length_nil, List.length_append, List.set, List.cons_append, List.nil_append] | rfl))
        | refine brP.t (by assumption) ?_
        | refine brP.f (by assumption) ?_
        | refine brP.tD (by assumption) ?_
        | refine brP.fD (by assumption) ?_
        | refine brP.tN (by assumption) ?_
        | refine brP.fN (by assumption) ?_
        | refine brP.introD (fun h => ?_) (fun h => ?_)
        | refine brP.introN (fun h => ?_) (fun h => ?_)
        | refine brP.intro (fun h => ?_) (fun h => ?_)
        | refine ⟨_, _, _, _, _, rfl, rfl, rfl, Fits.mk (by first | exact Nat.le_of_ble_eq_true rfl | (dsimp only; omega)), rfl, ?_⟩
        | refine ⟨_, _, _, _, _, rfl, _, rfl, ?_⟩
        | refine ⟨_, _, _, _, _, rfl, Fits.mk (by first | exact Nat.le_of_ble_eq_true rfl | (dsimp only; omega)), _, rfl, ?_⟩
        | refine ⟨Fits.mk (by first | exact Nat.le_of_ble_eq_true rfl | (dsimp only; omega)), _, rfl, ?_⟩
        | refine draw_go (C_ok W0) (by kernel_rfl) ?_
        | refine ⟨cpt_ok (by kernel_rfl), ?_⟩
        | refine ⟨InB.mk (by first | decide | omega) (by first | decide | omega), ?_⟩
        | refine ⟨SlB.mk (by first | omega | decide) (by first | omega | decide) (by first | omega | decide), ?_⟩
        | refine ⟨ShB.mk (by first | decide | omega), ?_⟩
        | refine ⟨NzB.mk (by first | decide | omega), ?_⟩
        | refine ⟨by decide, MkB.mk (by omega) (by omega) (by omega) (by omega), ?_⟩
        | refine ⟨trivial, ?_⟩
        | refine ⟨by decide, rfl, by decide, ?_⟩
        | refine .inr ⟨by decide, _, _, _, _, _, rfl, rfl, Fits.mk (by first | exact Nat.le_of_ble_eq_true rfl | omega), ?_⟩
        | refine .inr ⟨by decide, by decide, Room.mk (by decide) (by decide), ?_⟩
        | refine .inr ⟨by decide, _, _, _, _, _, rfl, rfl, Room.mk (by omega) (by omega), .inr (.inr ⟨(by omega), rfl, rfl, rfl, (by first | omega | (simp; done) | (simp; omega)), (by omega), rfl, ?_⟩)⟩
        | refine ⟨by decide, ?_⟩
        | refine ⟨subHi_le _ _ _, ?_⟩
        | refine ⟨_, rfl, ?_⟩
        | fail
      rfl
  · rw [show bareB nm = false by simpa using b1] at p1
    repeat' first
      | refine brP.tD (by omega) ?_
      | refine brP.fD (by omega) ?_
      | refine brP.tN (by omega) ?_
      | refine brP.fN (by omega) ?_
      | refine (aw).call ?_
      | refine .inl ⟨_, aw, ?_⟩
      | refine (p1).call ?_
      | refine .inl ⟨_, p1, ?_⟩
      | (apply Here.norm; (first | dsimp only [Env.putR, argEnv, pure1, newPtr, applyE, hset, List.length_cons, List.length_nil, List.length_append, List.set, List.cons_append, List.nil_append] | rfl); (first | dsimp only [Env.putR, argEnv, pure1, newPtr, applyE, hset, List.length_cons, List.length_nil, List.length_append, List.set, List.cons_append, List.nil_append] | rfl))
      | refine brP.t (by assumption) ?_
      | refine brP.f (by assumption) ?_
      | refine brP.tD (by assumption) ?_
      | refine brP.fD (by assumption) ?_
      | refine brP.tN (by assumption) ?_
      | refine brP.fN (by assumption) ?_
      | refine brP.introD (fun h => ?_) (fun h => ?_)
      | refine brP.introN (fun h => ?_) (fun h => ?_)
      | refine brP.intro (fun h => ?_) (fun h => ?_)
      | refine ⟨_, _, _, _, _, rfl, rfl, rfl, Fits.mk (by first | exact Nat.le_of_ble_eq_true rfl | (dsimp only; omega)), rfl, ?_⟩
      | refine ⟨_, _, _, _, _, rfl, _, rfl, ?_⟩
      | refine ⟨_, _, _, _, _, rfl, Fits.mk (by first | exact Nat.le_of_ble_eq_true rfl | (dsimp only; omega)), _, rfl, ?_⟩
      | refine ⟨Fits.mk (by first | exact Nat.le_of_ble_eq_true rfl | (dsimp only; omega)), _, rfl, ?_⟩
      | refine draw_go (C_ok W0) (by kernel_rfl) ?_
      | refine ⟨cpt_ok (by kernel_rfl), ?_⟩
      | refine ⟨InB.mk (by first | decide | omega) (by first | decide | omega), ?_⟩
      | refine ⟨SlB.mk (by first | omega | decide) (by first | omega | decide) (by first | omega | decide), ?_⟩
      | refine ⟨ShB.mk (by first | decide | omega), ?_⟩
      | refine ⟨NzB.mk (by first | decide | omega), ?_⟩
      | refine ⟨by decide, MkB.mk (by omega) (by omega) (by omega) (by omega), ?_⟩
      | refine ⟨trivial, ?_⟩
      | refine ⟨by decide, rfl, by decide, ?_⟩
      | refine .inr ⟨by decide, _, _, _, _, _, rfl, rfl, Fits.mk (by first | exact Nat.le_of_ble_eq_true rfl | omega), ?_⟩
      | refine .inr ⟨by decide, by decide, Room.mk (by decide) (by decide), ?_⟩
      | refine .inr ⟨by decide, _, _, _, _, _, rfl, rfl, Room.mk (by omega) (by omega), .inr (.inr ⟨(by omega), rfl, rfl, rfl, (by first | omega | (simp; done) | (simp; omega)), (by omega), rfl, ?_⟩)⟩
      | refine ⟨by decide, ?_⟩
      | refine ⟨subHi_le _ _ _, ?_⟩
      | refine ⟨_, rfl, ?_⟩
      | fail
    rfl
end Go.Proofs.YtioahngbfdfcaaaDoor
