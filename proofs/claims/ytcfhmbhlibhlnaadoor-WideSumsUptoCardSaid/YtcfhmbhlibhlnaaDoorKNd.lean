import Derived.Test.YtcfhmbhlibhlnaaDoorKNc
set_option linter.unusedVariables false
set_option linter.unusedSimpArgs false
namespace Go.Proofs.YtcfhmbhlibhlnaaDoor
open Go Go.Den Go.RowKit
variable {W0 : World}
theorem putL_u32 {o : List Int} {off k : Nat} {x : Int} (e : off = k) (h : k < o.length) : putL (u32s o) off [Value.int .u32 x] = u32s (o.set k x) := by
  subst e
  unfold putL
  show _ = List.map _ (o.set off x)
  rw [List.map_set, List.set_eq_take_append_cons_drop, if_pos (by simpa using h)]
  simp
theorem putL_u32' {o : List Int} {off k : Nat} {y x : Int} (e : off = k) (h : k < o.length) (hx : y = x) : putL (u32s o) off [Value.int .u32 y] = u32s (o.set k x) := by subst hx; exact putL_u32 e h
theorem shr16_64 (x : Int) (h0 : 0 ≤ x) : shrV .u64 x 16 = x / 65536 := by
  show x.fdiv (2 ^ (min 16 64)) = _
  rw [Int.fdiv_eq_ediv_of_nonneg _ (by decide)]; rfl
theorem wrap_u {x : Int} (h : 0 ≤ x ∧ x < 18446744073709551616) : IntKind.u64.wrap x = x := wraps_u64 x h.1 (by omega)
theorem mul_sum (x y r c : Int) (hx : 0 ≤ x ∧ x < 65536) (hy : 0 ≤ y ∧ y < 65536) (hr : 0 ≤ r ∧ r < 65536) (hc : 0 ≤ c ∧ c < 65536) :
    IntKind.u64.wrap (IntKind.u64.wrap (IntKind.u64.wrap r + IntKind.u64.wrap (IntKind.u64.wrap x * IntKind.u64.wrap y)) + c) = r + x * y + c ∧ 0 ≤ r + x * y + c ∧ r + x * y + c < 4294967296 := by
  have h1 : x * y ≤ 65535 * 65535 := Int.mul_le_mul (by omega) (by omega) hy.1 (by decide)
  have h0 : 0 ≤ x * y := Int.mul_nonneg hx.1 hy.1
  rw [wrap_u (x := r) (by omega), wrap_u (x := x) (by omega), wrap_u (x := y) (by omega)]
  generalize x * y = p at *
  rw [wrap_u (x := p) (by omega), wrap_u (x := r + p) (by omega), wrap_u (by omega)]
  omega
/-- One step of the inner loop. -/
theorem mul_step (a b : List Int) (ha : Lm a) (hb : Lm b) (i : Nat) (hi : i < a.length) (j : Nat) (o : List Int) (c : Int) (hj : j ≤ b.length) (ho : o.length = a.length + b.length) (hl : Lm o) (hc : 0 ≤ c ∧ c < 65536)
    (hv : nv o + B (i + j) * c = nv a % B i * nv b + B i * (nv a / B i % 65536) * (nv b % B j)) :
    ∃ s, Go.bits .and .u64 (IntKind.u64.wrap (IntKind.u64.wrap (IntKind.u64.wrap (rd o ((i + j : Nat) : Int)) + IntKind.u64.wrap (IntKind.u64.wrap (rd a i) * IntKind.u64.wrap (rd b j))) + c)) 65535 = s % 65536 ∧
      shrV .u64 (IntKind.u64.wrap (IntKind.u64.wrap (IntKind.u64.wrap (rd o ((i + j : Nat) : Int)) + IntKind.u64.wrap (IntKind.u64.wrap (rd a i) * IntKind.u64.wrap (rd b j))) + c)) 16 = s / 65536 ∧
      Lm (o.set (i + j) (s % 65536)) ∧ (0 ≤ s / 65536 ∧ s / 65536 < 65536) ∧ nv (o.set (i + j) (s % 65536)) + B (i + (j + 1)) * (s / 65536) = nv a % B i * nv b + B i * (nv a / B i % 65536) * (nv b % B (j + 1)) ∧ (j = b.length → s / 65536 = 0) := by
  have hna := nv_nonneg ha
  have hnb := nv_nonneg hb
  have dx := digit_range (nv a) i
  have ex := mod_succ (nv a) i hna
  have fin : nv a % B i * nv b + B i * (nv a / B i % 65536) * nv b = nv a % B (i + 1) * nv b := by rw [ex, Int.add_mul]
  have dy := digit_range (nv b) j
  have ey := mod_succ (nv b) j hnb
  have dr := rd_range hl ((i + j : Nat) : Int)
  have ns := nv_set (l := o) (i + j) ((rd o ((i + j : Nat) : Int) + nv a / B i % 65536 * (nv b / B j % 65536) + c) % 65536) (by omega)
  rw [rd_nv ha, rd_nv hb]
  obtain ⟨m1, m2, m3⟩ := mul_sum _ _ _ c dx dy dr hc
  rw [m1]
  generalize hx : nv a / B i % 65536 = x at *
  generalize hy : nv b / B j % 65536 = y at *
  generalize hr : rd o ((i + j : Nat) : Int) = r at *
  have hs : Lm (o.set (i + j) ((r + x * y + c) % 65536)) := Lm_set hl _ _ (by omega)
  have hv' : nv (o.set (i + j) ((r + x * y + c) % 65536)) + B (i + (j + 1)) * ((r + x * y + c) / 65536) = nv a % B i * nv b + B i * x * (nv b % B (j + 1)) := by
    rw [ns, ey, Int.mul_add (B i * x), ← Int.add_assoc (nv a % B i * nv b), ← hv, show i + (j + 1) = (i + j) + 1 by omega, B_succ, B_add]
    generalize B i = p
    generalize B j = q
    have e : x * y = (r + x * y + c) % 65536 + 65536 * ((r + x * y + c) / 65536) - r - c := by omega
    have e2 : p * x * (q * y) = p * q * (x * y) := by grind
    rw [e2]
    conv => rhs; rw [e]
    grind
  refine ⟨r + x * y + c, and_u64 _ m2 (by omega), shr16_64 _ m2, hs, by omega, hv', fun h0 => ?_⟩
  rw [nv_mod_full hb (j + 1) (by omega), fin] at hv'
  have l1 := nv_nonneg hs
  have l2 : nv a % B (i + 1) * nv b < B (i + (j + 1)) := by
    have q1 : nv a % B (i + 1) < B (i + 1) := Int.emod_lt_of_pos _ (B_pos _)
    have q0 : 0 ≤ nv a % B (i + 1) := Int.emod_nonneg _ (by have := B_pos (i + 1); omega)
    have q2 := nv_lt hb
    have q3 : nv a % B (i + 1) * nv b ≤ nv a % B (i + 1) * B b.length := Int.mul_le_mul_of_nonneg_left (by omega) q0
    have q4 : nv a % B (i + 1) * B b.length < B (i + 1) * B b.length := Int.mul_lt_mul_of_pos_right q1 (B_pos _)
    rw [← B_add] at q4
    have q5 := B_le (show i + 1 + b.length ≤ i + (j + 1) by omega)
    omega
  have l3 : B (i + (j + 1)) * ((r + x * y + c) / 65536) < B (i + (j + 1)) * 1 := by omega
  have l4 := Int.lt_of_mul_lt_mul_left l3 (Int.le_of_lt (B_pos _))
  omega
theorem mul_done (a b : List Int) (hb : Lm b) (ha : Lm a) (i j : Nat) (o : List Int) (h : b.length ≤ j) (hv : nv o + B (i + j) * 0 = nv a % B i * nv b + B i * (nv a / B i % 65536) * (nv b % B j)) : nv o = nv a % B (i + 1) * nv b := by
  rw [nv_mod_full hb j h, Int.mul_zero, Int.add_zero] at hv
  rw [hv, mod_succ (nv a) i (nv_nonneg ha), Int.add_mul]
theorem ref_mulL (a b : List Int) (ha : Lm a) (hb : Lm b) (hsa : a.length ≤ 400000000) (hsb : b.length ≤ 400000000) : PureF (C W0) I.tumblerref01_mulL [Lv a, Lv b] (Lv (lim (nv a * nv b))) := by
  refine PureF.E (CallP.of_body (C_ok W0) B.tumblerref01_mulL rfl rfl rfl ?_)
  have hw : IntKind.i64.wrap ((a.length : Int) + (b.length : Int)) = ((a.length + b.length : Nat) : Int) := by rw [wrap_in (by omega)]; omega
  repeat' first
    | (apply Here.norm; (first | dsimp only [Env.putR, argEnv, pure1, newPtr, applyE, hset, List.length_cons, List.length_nil, List.length_append, List.set, List.cons_append, List.nil_append] | rfl); (first | dsimp only [Env.putR, argEnv, pure1, newPtr, applyE, hset, List.length_cons, List.length_nil, List.length_append, List.set, List.cons_append, List.nil_append] | rfl))
    | refine brP.t (by assumption) ?_
    | refine brP.f (by assumption) ?_
    | refine brP.tD (by assumption) ?_
    | refine brP.fD (by assumption) ?_
    | refine brP.tN (by assumption) ?_
    | refine brP.fN (by assumption) ?_
    | refine brP.introD (fun h => ?_) (fun h => ?_)
    | refine brP.introN (fun h => ?_) (fun h => ?_)
    | refine brP.intro (fun h => ?_) (fun h => ?_)
    | refine ⟨_, _, _, _, _, rfl, rfl, rfl, Fits.mk (by first | exact Nat.le_of_ble_eq_true rfl | (dsimp only; omega)), rfl, ?_⟩
    | refine ⟨_, _, _, _, _, rfl, _, rfl, ?_⟩
    | refine ⟨_, _, _, _, _, rfl, Fits.mk (by first | exact Nat.le_of_ble_eq_true rfl | (dsimp only; omega)), _, rfl, ?_⟩
    | refine ⟨Fits.mk (by first | exact Nat.le_of_ble_eq_true rfl | (dsimp only; omega)), _, rfl, ?_⟩
    | refine draw_go (C_ok W0) (by kernel_rfl) ?_
    | refine ⟨cpt_ok (by kernel_rfl), ?_⟩
    | refine ⟨InB.mk (by first | decide | omega) (by first | decide | omega), ?_⟩
    | refine ⟨SlB.mk (by first | omega | decide) (by first | omega | decide) (by first | omega | decide), ?_⟩
    | refine ⟨ShB.mk (by first | decide | omega), ?_⟩
    | refine ⟨NzB.mk (by first | decide | omega), ?_⟩
    | refine ⟨by decide, MkB.mk (by omega) (by omega) (by omega) (by omega), ?_⟩
    | refine ⟨trivial, ?_⟩
    | refine ⟨by decide, rfl, by decide, ?_⟩
    | refine .inr ⟨by decide, _, _, _, _, _, rfl, rfl, Fits.mk (by first | exact Nat.le_of_ble_eq_true rfl | omega), ?_⟩
    | refine .inr ⟨by decide, by decide, Room.mk (by decide) (by decide), ?_⟩
    | refine .inr ⟨by decide, _, _, _, _, _, rfl, rfl, Room.mk (by omega) (by omega), .inr (.inr ⟨(by omega), rfl, rfl, rfl, (by first | omega | (simp; done) | (simp; omega)), (by omega), rfl, ?_⟩)⟩
    | refine ⟨by decide, ?_⟩
    | refine ⟨subHi_le _ _ _, ?_⟩
    | refine ⟨_, rfl, ?_⟩
    | fail
  refine loop_I (C_ok W0) (fun (p : Nat × List Int) => p.1 ≤ a.length ∧ p.2.length = a.length + b.length ∧ Lm p.2 ∧ nv p.2 = nv a % B p.1 * nv b)
    (fun p => [(0, Lv a), (1, Lv b), (5, .slice (some ⟨0, 0, none⟩) (a.length + b.length) (a.length + b.length)), (6, .int .i64 p.1)]) (fun p => [.cells (u32s p.2) 1 true false Y.uint32]) (fun p => a.length - p.1)
    (0, List.replicate (a.length + b.length) 0) ⟨Nat.zero_le _, by simp, Lm_zeros _, by simp [nv_zeros, B_zero, Int.emod_one]⟩ ⟨_, rfl, ?_⟩ ?_
  · rw [hw]
    exact RT.of_eq rfl (by rw [Int.toNat_natCast, repL_one]; simp [List.map_replicate])
  rintro ⟨i, o⟩ ⟨hi, ho, hl, hv⟩
  dsimp only at hi ho hl hv ⊢
  by_cases g : i < a.length
  · have g1 : (i : Int) < (a.length : Int) := by omega
    repeat' first
      | (apply Here.norm; (first | dsimp only [Env.putR, argEnv, pure1, newPtr, applyE, hset, List.length_cons, List.length_nil, List.length_append, List.set, List.cons_append, List.nil_append] | rfl); (first | dsimp only [Env.putR, argEnv, pure1, newPtr, applyE, hset, List.length_cons, List.length_nil, List.length_append, List.set, List.cons_append, List.nil_append] | rfl))
      | refine brP.t (by assumption) ?_
      | refine brP.f (by assumption) ?_
      | refine brP.tD (by assumption) ?_
      | refine brP.fD (by assumption) ?_
      | refine brP.tN (by assumption) ?_
      | refine brP.fN (by assumption) ?_
      | refine brP.introD (fun h => ?_) (fun h => ?_)
      | refine brP.introN (fun h => ?_) (fun h => ?_)
      | refine brP.intro (fun h => ?_) (fun h => ?_)
      | refine ⟨_, _, _, _, _, rfl, rfl, rfl, Fits.mk (by first | exact Nat.le_of_ble_eq_true rfl | (dsimp only; omega)), rfl, ?_⟩
      | refine ⟨_, _, _, _, _, rfl, _, rfl, ?_⟩
      | refine ⟨_, _, _, _, _, rfl, Fits.mk (by first | exact Nat.le_of_ble_eq_true rfl | (dsimp only; omega)), _, rfl, ?_⟩
      | refine ⟨Fits.mk (by first | exact Nat.le_of_ble_eq_true rfl | (dsimp only; omega)), _, rfl, ?_⟩
      | refine draw_go (C_ok W0) (by kernel_rfl) ?_
      | refine ⟨cpt_ok (by kernel_rfl), ?_⟩
      | refine ⟨InB.mk (by first | decide | omega) (by first | decide | omega), ?_⟩
      | refine ⟨SlB.mk (by first | omega | decide) (by first | omega | decide) (by first | omega | decide), ?_⟩
      | refine ⟨ShB.mk (by first | decide | omega), ?_⟩
      | refine ⟨NzB.mk (by first | decide | omega), ?_⟩
      | refine ⟨by decide, MkB.mk (by omega) (by omega) (by omega) (by omega), ?_⟩
      | refine ⟨trivial, ?_⟩
      | refine ⟨by decide, rfl, by decide, ?_⟩
      | refine .inr ⟨by decide, _, _, _, _, _, rfl, rfl, Fits.mk (by first | exact Nat.le_of_ble_eq_true rfl | omega), ?_⟩
      | refine .inr ⟨by decide, by decide, Room.mk (by decide) (by decide), ?_⟩
      | refine .inr ⟨by decide, _, _, _, _, _, rfl, rfl, Room.mk (by omega) (by omega), .inr (.inr ⟨(by omega), rfl, rfl, rfl, (by first | omega | (simp; done) | (simp; omega)), (by omega), rfl, ?_⟩)⟩
      | refine ⟨by decide, ?_⟩
      | refine ⟨subHi_le _ _ _, ?_⟩
      | refine ⟨_, rfl, ?_⟩
      | fail
    refine loop_I (C_ok W0) (fun (p : Nat × List Int × Int) => p.1 ≤ b.length + 1 ∧ p.2.1.length = a.length + b.length ∧ Lm p.2.1 ∧ (0 ≤ p.2.2 ∧ p.2.2 < 65536) ∧ nv p.2.1 + B (i + p.1) * p.2.2 = nv a % B i * nv b + B i * (nv a / B i % 65536) * (nv b % B p.1) ∧ (p.1 = b.length + 1 → p.2.2 = 0))
      (fun p => [(0, Lv a), (1, Lv b), (5, .slice (some ⟨0, 0, none⟩) (a.length + b.length) (a.length + b.length)), (6, .int .i64 i), (7, .int .u64 p.2.2), (8, .int .i64 p.1)]) (fun p => [.cells (u32s p.2.1) 1 true false Y.uint32]) (fun p => b.length + 2 - p.1)
      (0, o, 0) ⟨Nat.zero_le _, ho, hl, ⟨Int.le_refl 0, show (0 : Int) < 65536 by decide⟩, by simp [B_zero, Int.emod_one, hv], fun _ => rfl⟩ ⟨_, rfl, RT.of_eq rfl rfl⟩ ?_
    rintro ⟨j, o, c⟩ ⟨hj, ho, hl, hc, hv, hz⟩
    dsimp only at hj ho hl hc hv hz ⊢
    have lb := ref_limb (W0 := W0) b j
    have hij : IntKind.i64.wrap ((i : Int) + (j : Int)) = ((i + j : Nat) : Int) := by rw [wrap_in (by omega)]; omega
    have hol : (u32s o).length = a.length + b.length := by rw [List.length_map, ho]
    have hjl : 0 < c → j ≤ b.length := fun h => by
      rcases Nat.lt_or_eq_of_le hj with z | z
      · omega
      · have := hz z; omega
    repeat' first
      | refine (lb).call ?_
      | refine .inl ⟨_, lb, ?_⟩
      | refine ⟨_, _, _, _, _, rfl, _, u32s_at (i := i + j) (by omega) (by omega), ?_⟩
      | refine ⟨_, u32s_at (i := i) (by omega) (by omega), ?_⟩
      | (apply Here.norm; (first | dsimp only [Env.putR, argEnv, pure1, newPtr, applyE, hset, List.length_cons, List.length_nil, List.length_append, List.set, List.cons_append, List.nil_append] | rfl); (first | dsimp only [Env.putR, argEnv, pure1, newPtr, applyE, hset, List.length_cons, List.length_nil, List.length_append, List.set, List.cons_append, List.nil_append] | rfl))
      | refine brP.t (by assumption) ?_
      | refine brP.f (by assumption) ?_
      | refine brP.tD (by assumption) ?_
      | refine brP.fD (by assumption) ?_
      | refine brP.tN (by assumption) ?_
      | refine brP.fN (by assumption) ?_
      | refine brP.introD (fun h => ?_) (fun h => ?_)
      | refine brP.introN (fun h => ?_) (fun h => ?_)
      | refine brP.intro (fun h => ?_) (fun h => ?_)
      | refine ⟨_, _, _, _, _, rfl, rfl, rfl, Fits.mk (by first | exact Nat.le_of_ble_eq_true rfl | (dsimp only; omega)), rfl, ?_⟩
      | refine ⟨_, _, _, _, _, rfl, _, rfl, ?_⟩
      | refine ⟨_, _, _, _, _, rfl, Fits.mk (by first | exact Nat.le_of_ble_eq_true rfl | (dsimp only; omega)), _, rfl, ?_⟩
      | refine ⟨Fits.mk (by first | exact Nat.le_of_ble_eq_true rfl | (dsimp only; omega)), _, rfl, ?_⟩
      | refine draw_go (C_ok W0) (by kernel_rfl) ?_
      | refine ⟨cpt_ok (by kernel_rfl), ?_⟩
      | refine ⟨InB.mk (by first | decide | omega) (by first | decide | omega), ?_⟩
      | refine ⟨SlB.mk (by first | omega | decide) (by first | omega | decide) (by first | omega | decide), ?_⟩
      | refine ⟨ShB.mk (by first | decide | omega), ?_⟩
      | refine ⟨NzB.mk (by first | decide | omega), ?_⟩
      | refine ⟨by decide, MkB.mk (by omega) (by omega) (by omega) (by omega), ?_⟩
      | refine ⟨trivial, ?_⟩
      | refine ⟨by decide, rfl, by decide, ?_⟩
      | refine .inr ⟨by decide, _, _, _, _, _, rfl, rfl, Fits.mk (by first | exact Nat.le_of_ble_eq_true rfl | omega), ?_⟩
      | refine .inr ⟨by decide, by decide, Room.mk (by decide) (by decide), ?_⟩
      | refine .inr ⟨by decide, _, _, _, _, _, rfl, rfl, Room.mk (by omega) (by omega), .inr (.inr ⟨(by omega), rfl, rfl, rfl, (by first | omega | (simp; done) | (simp; omega)), (by omega), rfl, ?_⟩)⟩
      | refine ⟨by decide, ?_⟩
      | refine ⟨subHi_le _ _ _, ?_⟩
      | refine ⟨_, rfl, ?_⟩
      | fail
    iterate 2
      focus
        obtain ⟨s, q1, q2, s5, s6, s7, s8⟩ := mul_step a b ha hb i g j o c (by omega) ho hl hc hv
        apply Again.mk (j + 1, o.set (i + j) (s % 65536), s / 65536)
        · exact ⟨by dsimp only; omega, by rw [List.length_set]; exact ho, s5, s6, s7, fun z => s8 (by dsimp only at z; omega)⟩
        · dsimp only; omega
        · refine ⟨_, rfl, ?_⟩
          dsimp only [List.map]
          refine RT.ren [0] rfl rfl ?_ ?_
          all_goals (repeat' first
            | exact trivial
            | exact LTo.nil
            | refine ⟨⟨_, rfl, ?_, (fun z => by cases z)⟩, ?_⟩
            | refine BTo.cells (fun z => z) ?_
            | refine BTo.cells (fun z => by cases z) ?_
            | exact VTo.ptr (by decide)
            | exact VTo.slice (by decide)
            | exact VTo.map (by decide)
            | exact VTo.emptyN _
            | refine LTo.cons ?_ ?_
            | refine VTo.int ?_
            | refine VTo.bool ?_
            | refine VTo.string ?_
            | refine VTo.agg ?_
            | refine VTo.tuple ?_
            | exact VTo.same _
            | (with_reducible rfl)
            | exact VTo.n rfl
            | exact LTo.n rfl
            | refine LTo.n ?_
            | refine VTo.n ?_
            )
          · exact putL_u32' (by omega) (by omega) (by rw [wr_u32, q1]; omega)
          · exact q2
          · rw [wrap_in (by omega)]; omega
    · apply Again.mk (i + 1, o)
      · exact ⟨by dsimp only; omega, ho, hl, mul_done a b hb ha i j o (by omega) (by rw [show c = 0 by omega] at hv; exact hv)⟩
      · dsimp only; omega
      · refine ⟨_, rfl, ?_⟩
        dsimp only [List.map]
        refine RT.ren [0] rfl rfl ?_ ?_
        all_goals (repeat' first
          | exact trivial
          | exact LTo.nil
          | refine ⟨⟨_, rfl, ?_, (fun z => by cases z)⟩, ?_⟩
          | refine BTo.cells (fun z => z) ?_
          | refine BTo.cells (fun z => by cases z) ?_
          | exact VTo.ptr (by decide)
          | exact VTo.slice (by decide)
          | exact VTo.map (by decide)
          | exact VTo.emptyN _
          | refine LTo.cons ?_ ?_
          | refine VTo.int ?_
          | refine VTo.bool ?_
          | refine VTo.string ?_
          | refine VTo.agg ?_
          | refine VTo.tuple ?_
          | exact VTo.same _
          | (with_reducible rfl)
          | exact VTo.n rfl
          | exact LTo.n rfl
          | refine LTo.n ?_
          | refine VTo.n ?_
          )
        rw [wrap_in (by omega)]; omega
  · have g1 : ¬ (i : Int) < (a.length : Int) := by omega
    have tr : PureF (C W0) I.tumblerref01_trim [LV (u32s o) (a.length + b.length)] (Lv (lim (nv o))) := by rw [← ho]; exact ref_trim o hl (by omega)
    have e1 : List.take ((a.length + b.length) * 1) (List.drop 0 (u32s o)) = u32s o := by rw [Nat.mul_one, List.drop_zero, List.take_of_length_le (by simp [ho])]
    have e2 : 0 + (a.length + b.length) * 1 ≤ (u32s o).length := by simp [ho]
    repeat' first
      | refine (tr.give1 0 (.cons (VTo.fz' e2 e1) .nil) _).call (by first | exact trivial | exact ⟨rfl, trivial⟩ | exact ⟨rfl, rfl, trivial⟩) ?_
      | refine .inr ⟨_, tr.give1 0 (.cons (VTo.fz' e2 e1) .nil) _, (by first | exact trivial | exact ⟨rfl, trivial⟩ | exact ⟨rfl, rfl, trivial⟩), ?_⟩
      | refine lv_fin ?_ ?_
      | (apply Here.norm; (first | dsimp only [Env.putR, argEnv, pure1, newPtr, applyE, hset, List.length_cons, List.length_nil, List.length_append, List.set, List.cons_append, List.nil_append] | rfl); (first | dsimp only [Env.putR, argEnv, pure1, newPtr, applyE, hset, List.length_cons, List.length_nil, List.length_append, List.set, List.cons_append, List.nil_append] | rfl))
      | refine brP.t (by assumption) ?_
      | refine brP.f (by assumption) ?_
      | refine brP.tD (by assumption) ?_
      | refine brP.fD (by assumption) ?_
      | refine brP.tN (by assumption) ?_
      | refine brP.fN (by assumption) ?_
      | refine brP.introD (fun h => ?_) (fun h => ?_)
      | refine brP.introN (fun h => ?_) (fun h => ?_)
      | refine brP.intro (fun h => ?_) (fun h => ?_)
      | refine ⟨_, _, _, _, _, rfl, rfl, rfl, Fits.mk (by first | exact Nat.le_of_ble_eq_true rfl | (dsimp only; omega)), rfl, ?_⟩
      | refine ⟨_, _, _, _, _, rfl, _, rfl, ?_⟩
      | refine ⟨_, _, _, _, _, rfl, Fits.mk (by first | exact Nat.le_of_ble_eq_true rfl | (dsimp only; omega)), _, rfl, ?_⟩
      | refine ⟨Fits.mk (by first | exact Nat.le_of_ble_eq_true rfl | (dsimp only; omega)), _, rfl, ?_⟩
      | refine draw_go (C_ok W0) (by kernel_rfl) ?_
      | refine ⟨cpt_ok (by kernel_rfl), ?_⟩
      | refine ⟨InB.mk (by first | decide | omega) (by first | decide | omega), ?_⟩
      | refine ⟨SlB.mk (by first | omega | decide) (by first | omega | decide) (by first | omega | decide), ?_⟩
      | refine ⟨ShB.mk (by first | decide | omega), ?_⟩
      | refine ⟨NzB.mk (by first | decide | omega), ?_⟩
      | refine ⟨by decide, MkB.mk (by omega) (by omega) (by omega) (by omega), ?_⟩
      | refine ⟨trivial, ?_⟩
      | refine ⟨by decide, rfl, by decide, ?_⟩
      | refine .inr ⟨by decide, _, _, _, _, _, rfl, rfl, Fits.mk (by first | exact Nat.le_of_ble_eq_true rfl | omega), ?_⟩
      | refine .inr ⟨by decide, by decide, Room.mk (by decide) (by decide), ?_⟩
      | refine .inr ⟨by decide, _, _, _, _, _, rfl, rfl, Room.mk (by omega) (by omega), .inr (.inr ⟨(by omega), rfl, rfl, rfl, (by first | omega | (simp; done) | (simp; omega)), (by omega), rfl, ?_⟩)⟩
      | refine ⟨by decide, ?_⟩
      | refine ⟨subHi_le _ _ _, ?_⟩
      | refine ⟨_, rfl, ?_⟩
      | fail
    all_goals rw [hv, nv_mod_full ha i (by omega)]
end Go.Proofs.YtcfhmbhlibhlnaaDoor
