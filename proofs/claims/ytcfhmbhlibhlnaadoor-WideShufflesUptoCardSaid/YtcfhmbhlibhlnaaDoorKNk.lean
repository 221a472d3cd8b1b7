import Derived.Test.YtcfhmbhlibhlnaaDoorKWl
import Derived.Test.YtcfhmbhlibhlnaaDoorKWs
set_option linter.unusedVariables false
set_option linter.unusedSimpArgs false
namespace Go.Proofs.YtcfhmbhlibhlnaaDoor
open Go Go.Den Go.RowKit
variable {W0 : World}
theorem putL_w : ∀ (us : List Int) (i : Nat) (v : Int), i < us.length → putL (wcells us) (i * 2) [.int .i64 (v / 18446744073709551616), .int .u64 (v % 18446744073709551616)] = wcells (us.set i v)
  | [], i, v, h => by cases h
  | u :: r, 0, v, h => by simp [putL, wcells]
  | u :: r, i + 1, v, h => by
    have := putL_w r i v (by simpa using h)
    rw [List.set_cons_succ]
    show _ = _ :: _ :: wcells (r.set i v)
    rw [← this, show (i + 1) * 2 = i * 2 + 1 + 1 by omega]
    simp [putL, wcells, Nat.add_right_comm]
theorem sum_set : ∀ (us : List Int) (i : Nat) (u v : Int), us[i]? = some u → (us.set i v).sum = us.sum - u + v
  | [], i, u, v, h => by cases h
  | x :: r, 0, u, v, h => by cases h; simp; omega
  | x :: r, i + 1, u, v, h => by
    have := sum_set r i u v (by simpa using h)
    simp [this]; omega
theorem wcells_app : ∀ us vs : List Int, wcells us ++ wcells vs = wcells (us ++ vs)
  | [], vs => rfl
  | u :: r, vs => by simp [wcells, wcells_app r vs]
theorem wcells_take : ∀ (us : List Int) (n : Nat), (wcells us).take (n * 2) = wcells (us.take n)
  | us, 0 => by simp [wcells]
  | [], n + 1 => by simp [wcells]
  | u :: r, n + 1 => by
    rw [show (n + 1) * 2 = n * 2 + 1 + 1 by omega]
    simp [wcells, wcells_take r n]
theorem wcells_drop : ∀ (us : List Int) (n : Nat), (wcells us).drop (n * 2) = wcells (us.drop n)
  | us, 0 => by simp
  | [], n + 1 => by simp [wcells]
  | u :: r, n + 1 => by
    rw [show (n + 1) * 2 = n * 2 + 1 + 1 by omega]
    simp [wcells, wcells_drop r n]
theorem wcells_one : ∀ us : List Int, (wcells us).all (·.oneCell') = true
  | [] => rfl
  | u :: r => by
    have := wcells_one r
    simp only [wcells, List.all_cons, this, Bool.and_true]
    rfl
theorem wide_SumN (us : List Int) (n : Nat) (hn : us.length = n) (hR : ∀ v ∈ us, R v) (hb : n ≤ 1048576) : PureF (C W0) I.wide_Sum [LV (wcells us) n] (wev us.sum) := by
  subst hn
  exact wide_Sum us hR (by omega)
theorem two_sums {us : List Int} {c : Nat} (h1 : (wenc (us.take c).sum).2 = 0) (h2 : (wenc (us.drop c).sum).2 = 0) : wenc ((wenc (us.take c).sum).1 + (wenc (us.drop c).sum).1) = wenc us.sum := by
  have w : ∀ x, (wenc x).2 = 0 → (wenc x).1 = x := fun x h => by
    by_cases k : R x
    · rw [wenc_in k]
    · rw [wenc_out k] at h; cases h
  rw [w _ h1, w _ h2, ← List.sum_append, List.take_append_drop]
abbrev wb1 (x : Int) : ABlk := .cells (wv (wenc x).1).cells.toList 1 true false Y.api_Wide
theorem wenc_Rk (x : Int) : R (wenc x).1 := by
  unfold wenc
  split
  · assumption
  · decide
structure IsC (a b : Int) : Prop where e : a = b
theorem sl_T (us : List Int) (z : Int) (c : Nat) (hz : z = c) (hc : c ≤ us.length) : ((wcells us).drop ((0 : Int).toNat * 2)).take ((z.toNat - (0 : Int).toNat) * 2) = wcells (us.take c) := by
  subst hz
  rw [show ((0 : Int).toNat * 2) = 0 from rfl, List.drop_zero, ← wcells_take]
  rfl
theorem sl_D (us : List Int) (z : Int) (c : Nat) (hz : z = c) (hc : c ≤ us.length) : ((wcells us).drop (z.toNat * 2)).take (((us.length : Int).toNat - z.toNat) * 2) = wcells (us.drop c) := by
  subst hz
  rw [show (((c : Nat) : Int).toNat * 2) = c * 2 from rfl, wcells_drop, List.take_of_length_le (by rw [wcells_len, List.length_drop]; omega)]
theorem swap_ok {us ws : List Int} {j : Nat} (g2 : ws.length = us.length) (g3 : ws.sum = us.sum) (g4 : ∀ v ∈ ws, R v) (gj : j < us.length / 2) :
    ((ws.set j (ws.getD (us.length - 1 - j) 0)).set (us.length - 1 - j) (ws.getD j 0)).length = us.length ∧ ((ws.set j (ws.getD (us.length - 1 - j) 0)).set (us.length - 1 - j) (ws.getD j 0)).sum = us.sum ∧
    ∀ v ∈ (ws.set j (ws.getD (us.length - 1 - j) 0)).set (us.length - 1 - j) (ws.getD j 0), R v := by
  have v1 : ws[j]? = some (ws.getD j 0) := by rw [List.getD_eq_getElem?_getD, List.getElem?_eq_getElem (by omega)]; rfl
  have v2 : ws[us.length - 1 - j]? = some (ws.getD (us.length - 1 - j) 0) := by rw [List.getD_eq_getElem?_getD, List.getElem?_eq_getElem (by omega)]; rfl
  have v3 : (ws.set j (ws.getD (us.length - 1 - j) 0))[us.length - 1 - j]? = some (ws.getD (us.length - 1 - j) 0) := by rw [List.getElem?_set_ne (by omega)]; exact v2
  refine ⟨by simp [g2], ?_, fun v hv => ?_⟩
  · rw [sum_set _ _ _ _ v3, sum_set _ _ _ _ v1, g3]; omega
  · rcases List.mem_or_eq_of_mem_set hv with h | rfl
    · rcases List.mem_or_eq_of_mem_set h with h | rfl
      · exact g4 v h
      · exact g4 _ (List.mem_of_getElem? v2)
    · exact g4 _ (List.mem_of_getElem? v1)
theorem swap_cells {us ws : List Int} {j : Nat} (g2 : ws.length = us.length) (gj : j < us.length / 2) :
    putL (putL (wcells ws) (0 + ((j : Int).toNat) * 2) [.int .i64 (ws.getD (us.length - 1 - j) 0 / 18446744073709551616), .int .u64 (ws.getD (us.length - 1 - j) 0 % 18446744073709551616)]) (0 + (((us.length - 1 - j : Nat) : Int).toNat) * 2) [.int .i64 (ws.getD j 0 / 18446744073709551616), .int .u64 (ws.getD j 0 % 18446744073709551616)] =
    wcells ((ws.set j (ws.getD (us.length - 1 - j) 0)).set (us.length - 1 - j) (ws.getD j 0)) := by
  rw [Nat.zero_add, Nat.zero_add, Int.toNat_natCast, Int.toNat_natCast, putL_w ws j _ (by omega), putL_w _ _ _ (by rw [List.length_set]; omega)]
theorem swap_fit {us ws : List Int} {j : Nat} (g2 : ws.length = us.length) (gj : j < us.length / 2) :
    0 + (((us.length - 1 - j : Nat) : Int).toNat) * 2 + 2 ≤ (putL (wcells ws) (0 + ((j : Int).toNat) * 2) [.int .i64 (ws.getD (us.length - 1 - j) 0 / 18446744073709551616), .int .u64 (ws.getD (us.length - 1 - j) 0 % 18446744073709551616)]).length := by
  rw [Nat.zero_add, Nat.zero_add, Int.toNat_natCast, Int.toNat_natCast, putL_w ws j _ (by omega), wcells_len, List.length_set]; omega
set_option maxHeartbeats 1000000 in
theorem shuf0 (k : Int) : PureF (C W0) I.tumblerlaw01_WideShuffles [LV (wcells []) 0, .int .i64 k] (.bool true) := by
  have al := alive (W0 := W0)
  have su := wide_SumN (W0 := W0) [] 0 rfl (by simp) (by decide)
  have ad : PureF (C W0) I.wide_Add [wv 0, wv 0] (wev 0) := wide_Add (W0 := W0) 0 0 (by decide) (by decide)
  rw [show wev ([] : List Int).sum = .tuple #[wv 0, .int .i64 0] from by rw [wev, wenc_in (by decide)]; rfl] at su
  rw [wev, wenc_in (by decide)] at ad
  refine PureF.E (CallP.of_body (C_ok W0) B.tumblerlaw01_WideShuffles rfl rfl rfl ?_)
  repeat' first
    | refine (al).call ?_
    | refine .inl ⟨_, al, ?_⟩
    | refine (su.give0 (.cons (VTo.emptyN _) .nil) _).call (by first | exact trivial | exact ⟨rfl, trivial⟩ | exact ⟨rfl, rfl, trivial⟩) ?_
    | refine .inr ⟨_, su.give0 (.cons (VTo.emptyN _) .nil) _, (by first | exact trivial | exact ⟨rfl, trivial⟩ | exact ⟨rfl, rfl, trivial⟩), ?_⟩
    | refine ⟨(rfl : (0 : Nat) = 0), ?_⟩
    | refine .inl ⟨(rfl : (0 : Nat) = 0), ?_⟩
    | (apply Here.norm; (first | dsimp only [Env.putR, argEnv, pure1, newPtr, applyE, hset, List.length_cons, List.length_nil, List.length_append, List.set, List.cons_append, List.nil_append] | rfl); (first | dsimp only [Env.putR, argEnv, pure1, newPtr, applyE, hset, List.length_cons, List.length_nil, List.length_append, List.set, List.cons_append, List.nil_append] | rfl))
    | refine brP.t (by assumption) ?_
    | refine brP.f (by assumption) ?_
    | refine brP.tD (by assumption) ?_
    | refine brP.fD (by assumption) ?_
    | refine brP.tN (by assumption) ?_
    | refine brP.fN (by assumption) ?_
    | refine brP.introD (fun h => ?_) (fun h => ?_)
    | refine brP.introN (fun h => ?_) (fun h => ?_)
    | refine brP.intro (fun h => ?_) (fun h => ?_)
    | refine ⟨_, _, _, _, _, rfl, rfl, rfl, Fits.mk (by first | exact Nat.le_of_ble_eq_true rfl | (dsimp only; omega)), rfl, ?_⟩
    | refine ⟨_, _, _, _, _, rfl, _, rfl, ?_⟩
    | refine ⟨_, _, _, _, _, rfl, Fits.mk (by first | exact Nat.le_of_ble_eq_true rfl | (dsimp only; omega)), _, rfl, ?_⟩
    | refine ⟨Fits.mk (by first | exact Nat.le_of_ble_eq_true rfl | (dsimp only; omega)), _, rfl, ?_⟩
    | refine draw_go (C_ok W0) (by kernel_rfl) ?_
    | refine ⟨cpt_ok (by kernel_rfl), ?_⟩
    | refine ⟨InB.mk (by first | decide | omega) (by first | decide | omega), ?_⟩
    | refine ⟨SlB.mk (by first | omega | decide) (by first | omega | decide) (by first | omega | decide), ?_⟩
    | refine ⟨ShB.mk (by first | decide | omega), ?_⟩
    | refine ⟨NzB.mk (by first | decide | omega), ?_⟩
    | refine ⟨by decide, MkB.mk (by omega) (by omega) (by omega) (by omega), ?_⟩
    | refine ⟨trivial, ?_⟩
    | refine ⟨by decide, rfl, by decide, ?_⟩
    | refine .inr ⟨by decide, _, _, _, _, _, rfl, rfl, Fits.mk (by first | exact Nat.le_of_ble_eq_true rfl | omega), ?_⟩
    | refine .inr ⟨by decide, by decide, Room.mk (by decide) (by decide), ?_⟩
    | refine .inr ⟨by decide, _, _, _, _, _, rfl, rfl, Room.mk (by omega) (by omega), .inr (.inr ⟨(by omega), rfl, rfl, rfl, (by first | omega | (simp; done) | (simp; omega)), (by omega), rfl, ?_⟩)⟩
    | refine ⟨by decide, ?_⟩
    | refine ⟨subHi_le _ _ _, ?_⟩
    | refine ⟨_, rfl, ?_⟩
    | fail
  refine loop_go (C_ok W0) (fun _ : Unit => [(0, LV (wcells []) 0), (1, .int .i64 k), (5, .slice none 0 0), (6, .pointer (some ⟨0, 0, none⟩)), (7, .int .i64 0), (8, .int .i64 0)]) (fun _ => [.cells (wv 0).cells.toList 1 true false Y.api_Wide]) (fun _ => 0) ()
    ⟨_, rfl, RT.of_eq rfl rfl⟩ ?_
  intro _
  dsimp only
  by_cases hk : 0 < k
  · have hm : IsC (k.tmod (IntKind.i64.wrap (((0 : Nat) : Int) + 1))) 0 := ⟨by rw [wrap_in (by decide)]; simp⟩
    repeat' first
      | refine brP.tD (by omega) ?_
      | refine brP.fD (by omega) ?_
      | refine brP.tN (by omega) ?_
      | refine brP.fN (by omega) ?_
      | refine ⟨(rfl : (0 : Nat) = 0), ?_⟩
      | refine .inl ⟨(rfl : (0 : Nat) = 0), ?_⟩
      | (apply Here.norm; (first | dsimp only [Env.putR, argEnv, pure1, newPtr, applyE, hset, List.length_cons, List.length_nil, List.length_append, List.set, List.cons_append, List.nil_append] | rfl); (first | dsimp only [Env.putR, argEnv, pure1, newPtr, applyE, hset, List.length_cons, List.length_nil, List.length_append, List.set, List.cons_append, List.nil_append] | rfl))
      | refine brP.t (by assumption) ?_
      | refine brP.f (by assumption) ?_
      | refine brP.tD (by assumption) ?_
      | refine brP.fD (by assumption) ?_
      | refine brP.tN (by assumption) ?_
      | refine brP.fN (by assumption) ?_
      | refine brP.introD (fun h => ?_) (fun h => ?_)
      | refine brP.introN (fun h => ?_) (fun h => ?_)
      | refine brP.intro (fun h => ?_) (fun h => ?_)
      | refine ⟨_, _, _, _, _, rfl, rfl, rfl, Fits.mk (by first | exact Nat.le_of_ble_eq_true rfl | (dsimp only; omega)), rfl, ?_⟩
      | refine ⟨_, _, _, _, _, rfl, _, rfl, ?_⟩
      | refine ⟨_, _, _, _, _, rfl, Fits.mk (by first | exact Nat.le_of_ble_eq_true rfl | (dsimp only; omega)), _, rfl, ?_⟩
      | refine ⟨Fits.mk (by first | exact Nat.le_of_ble_eq_true rfl | (dsimp only; omega)), _, rfl, ?_⟩
      | refine draw_go (C_ok W0) (by kernel_rfl) ?_
      | refine ⟨cpt_ok (by kernel_rfl), ?_⟩
      | refine ⟨InB.mk (by first | decide | omega) (by first | decide | omega), ?_⟩
      | refine ⟨SlB.mk (by first | omega | decide) (by first | omega | decide) (by first | omega | decide), ?_⟩
      | refine ⟨ShB.mk (by first | decide | omega), ?_⟩
      | refine ⟨NzB.mk (by first | decide | omega), ?_⟩
      | refine ⟨by decide, MkB.mk (by omega) (by omega) (by omega) (by omega), ?_⟩
      | refine ⟨trivial, ?_⟩
      | refine ⟨by decide, rfl, by decide, ?_⟩
      | refine .inr ⟨by decide, _, _, _, _, _, rfl, rfl, Fits.mk (by first | exact Nat.le_of_ble_eq_true rfl | omega), ?_⟩
      | refine .inr ⟨by decide, by decide, Room.mk (by decide) (by decide), ?_⟩
      | refine .inr ⟨by decide, _, _, _, _, _, rfl, rfl, Room.mk (by omega) (by omega), .inr (.inr ⟨(by omega), rfl, rfl, rfl, (by first | omega | (simp; done) | (simp; omega)), (by omega), rfl, ?_⟩)⟩
      | refine ⟨by decide, ?_⟩
      | refine ⟨subHi_le _ _ _, ?_⟩
      | refine ⟨_, rfl, ?_⟩
      | fail
    rw [hm.e]
    repeat' first
      | refine brP.tD (by omega) ?_
      | refine brP.fD (by omega) ?_
      | refine brP.tN (by omega) ?_
      | refine brP.fN (by omega) ?_
      | refine ⟨Nat.zero_le _, [], rfl, ?_⟩
      | refine ⟨(rfl : (0 : Nat) = 0), ?_⟩
      | refine .inl ⟨(rfl : (0 : Nat) = 0), ?_⟩
      | (apply Here.norm; (first | dsimp only [Env.putR, argEnv, pure1, newPtr, applyE, hset, List.length_cons, List.length_nil, List.length_append, List.set, List.cons_append, List.nil_append] | rfl); (first | dsimp only [Env.putR, argEnv, pure1, newPtr, applyE, hset, List.length_cons, List.length_nil, List.length_append, List.set, List.cons_append, List.nil_append] | rfl))
      | refine brP.t (by assumption) ?_
      | refine brP.f (by assumption) ?_
      | refine brP.tD (by assumption) ?_
      | refine brP.fD (by assumption) ?_
      | refine brP.tN (by assumption) ?_
      | refine brP.fN (by assumption) ?_
      | refine brP.introD (fun h => ?_) (fun h => ?_)
      | refine brP.introN (fun h => ?_) (fun h => ?_)
      | refine brP.intro (fun h => ?_) (fun h => ?_)
      | refine ⟨_, _, _, _, _, rfl, rfl, rfl, Fits.mk (by first | exact Nat.le_of_ble_eq_true rfl | (dsimp only; omega)), rfl, ?_⟩
      | refine ⟨_, _, _, _, _, rfl, _, rfl, ?_⟩
      | refine ⟨_, _, _, _, _, rfl, Fits.mk (by first | exact Nat.le_of_ble_eq_true rfl | (dsimp only; omega)), _, rfl, ?_⟩
      | refine ⟨Fits.mk (by first | exact Nat.le_of_ble_eq_true rfl | (dsimp only; omega)), _, rfl, ?_⟩
      | refine draw_go (C_ok W0) (by kernel_rfl) ?_
      | refine ⟨cpt_ok (by kernel_rfl), ?_⟩
      | refine ⟨InB.mk (by first | decide | omega) (by first | decide | omega), ?_⟩
      | refine ⟨SlB.mk (by first | omega | decide) (by first | omega | decide) (by first | omega | decide), ?_⟩
      | refine ⟨ShB.mk (by first | decide | omega), ?_⟩
      | refine ⟨NzB.mk (by first | decide | omega), ?_⟩
      | refine ⟨by decide, MkB.mk (by omega) (by omega) (by omega) (by omega), ?_⟩
      | refine ⟨trivial, ?_⟩
      | refine ⟨by decide, rfl, by decide, ?_⟩
      | refine .inr ⟨by decide, _, _, _, _, _, rfl, rfl, Fits.mk (by first | exact Nat.le_of_ble_eq_true rfl | omega), ?_⟩
      | refine .inr ⟨by decide, by decide, Room.mk (by decide) (by decide), ?_⟩
      | refine .inr ⟨by decide, _, _, _, _, _, rfl, rfl, Room.mk (by omega) (by omega), .inr (.inr ⟨(by omega), rfl, rfl, rfl, (by first | omega | (simp; done) | (simp; omega)), (by omega), rfl, ?_⟩)⟩
      | refine ⟨by decide, ?_⟩
      | refine ⟨subHi_le _ _ _, ?_⟩
      | refine ⟨_, rfl, ?_⟩
      | fail
    refine loop_go (C_ok W0) (fun _ : Unit => [(0, LV (wcells []) 0), (6, .pointer (some ⟨0, 0, none⟩)), (7, .int .i64 0), (9, .int .i64 0), (10, .slice none 0 0), (11, .int .i64 0)]) (fun _ => [.cells (wv 0).cells.toList 1 true false Y.api_Wide]) (fun _ => 0) ()
      ⟨_, rfl, RT.of_eq rfl rfl⟩ ?_
    intro _
    repeat' first
      | refine brP.tD (by omega) ?_
      | refine brP.fD (by omega) ?_
      | refine brP.tN (by omega) ?_
      | refine brP.fN (by omega) ?_
      | refine brP.f (ne_same2 _ _) ?_
      | refine brP.f (ne_same _) ?_
      | refine ⟨Nat.zero_le _, [], rfl, ?_⟩
      | refine (su.give0 (.cons (VTo.emptyN _) .nil) _).call (by first | exact trivial | exact ⟨rfl, trivial⟩ | exact ⟨rfl, rfl, trivial⟩) ?_
      | refine .inr ⟨_, su.give0 (.cons (VTo.emptyN _) .nil) _, (by first | exact trivial | exact ⟨rfl, trivial⟩ | exact ⟨rfl, rfl, trivial⟩), ?_⟩
      | refine (su).call ?_
      | refine .inl ⟨_, su, ?_⟩
      | refine (ad).call ?_
      | refine .inl ⟨_, ad, ?_⟩
      | (apply Here.norm; (first | dsimp only [Env.putR, argEnv, pure1, newPtr, applyE, hset, List.length_cons, List.length_nil, List.length_append, List.set, List.cons_append, List.nil_append] | rfl); (first | dsimp only [Env.putR, argEnv, pure1, newPtr, applyE, hset, List.length_cons, List.length_nil, List.length_append, List.set, List.cons_append, List.nil_append] | rfl))
      | refine brP.t (by assumption) ?_
      | refine brP.f (by assumption) ?_
      | refine brP.tD (by assumption) ?_
      | refine brP.fD (by assumption) ?_
      | refine brP.tN (by assumption) ?_
      | refine brP.fN (by assumption) ?_
      | refine brP.introD (fun h => ?_) (fun h => ?_)
      | refine brP.introN (fun h => ?_) (fun h => ?_)
      | refine brP.intro (fun h => ?_) (fun h => ?_)
      | refine ⟨_, _, _, _, _, rfl, rfl, rfl, Fits.mk (by first | exact Nat.le_of_ble_eq_true rfl | (dsimp only; omega)), rfl, ?_⟩
      | refine ⟨_, _, _, _, _, rfl, _, rfl, ?_⟩
      | refine ⟨_, _, _, _, _, rfl, Fits.mk (by first | exact Nat.le_of_ble_eq_true rfl | (dsimp only; omega)), _, rfl, ?_⟩
      | refine ⟨Fits.mk (by first | exact Nat.le_of_ble_eq_true rfl | (dsimp only; omega)), _, rfl, ?_⟩
      | refine draw_go (C_ok W0) (by kernel_rfl) ?_
      | refine ⟨cpt_ok (by kernel_rfl), ?_⟩
      | refine ⟨InB.mk (by first | decide | omega) (by first | decide | omega), ?_⟩
      | refine ⟨SlB.mk (by first | omega | decide) (by first | omega | decide) (by first | omega | decide), ?_⟩
      | refine ⟨ShB.mk (by first | decide | omega), ?_⟩
      | refine ⟨NzB.mk (by first | decide | omega), ?_⟩
      | refine ⟨by decide, MkB.mk (by omega) (by omega) (by omega) (by omega), ?_⟩
      | refine ⟨trivial, ?_⟩
      | refine ⟨by decide, rfl, by decide, ?_⟩
      | refine .inr ⟨by decide, _, _, _, _, _, rfl, rfl, Fits.mk (by first | exact Nat.le_of_ble_eq_true rfl | omega), ?_⟩
      | refine .inr ⟨by decide, by decide, Room.mk (by decide) (by decide), ?_⟩
      | refine .inr ⟨by decide, _, _, _, _, _, rfl, rfl, Room.mk (by omega) (by omega), .inr (.inr ⟨(by omega), rfl, rfl, rfl, (by first | omega | (simp; done) | (simp; omega)), (by omega), rfl, ?_⟩)⟩
      | refine ⟨by decide, ?_⟩
      | refine ⟨subHi_le _ _ _, ?_⟩
      | refine ⟨_, rfl, ?_⟩
      | fail
    all_goals first
      | rfl
      | (simp at h; done)
  ·
    repeat' first
      | refine brP.tD (by omega) ?_
      | refine brP.fD (by omega) ?_
      | refine brP.tN (by omega) ?_
      | refine brP.fN (by omega) ?_
      | refine ⟨Nat.zero_le _, [], rfl, ?_⟩
      | refine ⟨(rfl : (0 : Nat) = 0), ?_⟩
      | refine .inl ⟨(rfl : (0 : Nat) = 0), ?_⟩
      | (apply Here.norm; (first | dsimp only [Env.putR, argEnv, pure1, newPtr, applyE, hset, List.length_cons, List.length_nil, List.length_append, List.set, List.cons_append, List.nil_append] | rfl); (first | dsimp only [Env.putR, argEnv, pure1, newPtr, applyE, hset, List.length_cons, List.length_nil, List.length_append, List.set, List.cons_append, List.nil_append] | rfl))
      | refine brP.t (by assumption) ?_
      | refine brP.f (by assumption) ?_
      | refine brP.tD (by assumption) ?_
      | refine brP.fD (by assumption) ?_
      | refine brP.tN (by assumption) ?_
      | refine brP.fN (by assumption) ?_
      | refine brP.introD (fun h => ?_) (fun h => ?_)
      | refine brP.introN (fun h => ?_) (fun h => ?_)
      | refine brP.intro (fun h => ?_) (fun h => ?_)
      | refine ⟨_, _, _, _, _, rfl, rfl, rfl, Fits.mk (by first | exact Nat.le_of_ble_eq_true rfl | (dsimp only; omega)), rfl, ?_⟩
      | refine ⟨_, _, _, _, _, rfl, _, rfl, ?_⟩
      | refine ⟨_, _, _, _, _, rfl, Fits.mk (by first | exact Nat.le_of_ble_eq_true rfl | (dsimp only; omega)), _, rfl, ?_⟩
      | refine ⟨Fits.mk (by first | exact Nat.le_of_ble_eq_true rfl | (dsimp only; omega)), _, rfl, ?_⟩
      | refine draw_go (C_ok W0) (by kernel_rfl) ?_
      | refine ⟨cpt_ok (by kernel_rfl), ?_⟩
      | refine ⟨InB.mk (by first | decide | omega) (by first | decide | omega), ?_⟩
      | refine ⟨SlB.mk (by first | omega | decide) (by first | omega | decide) (by first | omega | decide), ?_⟩
      | refine ⟨ShB.mk (by first | decide | omega), ?_⟩
      | refine ⟨NzB.mk (by first | decide | omega), ?_⟩
      | refine ⟨by decide, MkB.mk (by omega) (by omega) (by omega) (by omega), ?_⟩
      | refine ⟨trivial, ?_⟩
      | refine ⟨by decide, rfl, by decide, ?_⟩
      | refine .inr ⟨by decide, _, _, _, _, _, rfl, rfl, Fits.mk (by first | exact Nat.le_of_ble_eq_true rfl | omega), ?_⟩
      | refine .inr ⟨by decide, by decide, Room.mk (by decide) (by decide), ?_⟩
      | refine .inr ⟨by decide, _, _, _, _, _, rfl, rfl, Room.mk (by omega) (by omega), .inr (.inr ⟨(by omega), rfl, rfl, rfl, (by first | omega | (simp; done) | (simp; omega)), (by omega), rfl, ?_⟩)⟩
      | refine ⟨by decide, ?_⟩
      | refine ⟨subHi_le _ _ _, ?_⟩
      | refine ⟨_, rfl, ?_⟩
      | fail
    refine loop_go (C_ok W0) (fun _ : Unit => [(0, LV (wcells []) 0), (6, .pointer (some ⟨0, 0, none⟩)), (7, .int .i64 0), (9, .int .i64 0), (10, .slice none 0 0), (11, .int .i64 0)]) (fun _ => [.cells (wv 0).cells.toList 1 true false Y.api_Wide]) (fun _ => 0) ()
      ⟨_, rfl, RT.of_eq rfl rfl⟩ ?_
    intro _
    repeat' first
      | refine brP.tD (by omega) ?_
      | refine brP.fD (by omega) ?_
      | refine brP.tN (by omega) ?_
      | refine brP.fN (by omega) ?_
      | refine brP.f (ne_same2 _ _) ?_
      | refine brP.f (ne_same _) ?_
      | refine ⟨Nat.zero_le _, [], rfl, ?_⟩
      | refine (su.give0 (.cons (VTo.emptyN _) .nil) _).call (by first | exact trivial | exact ⟨rfl, trivial⟩ | exact ⟨rfl, rfl, trivial⟩) ?_
      | refine .inr ⟨_, su.give0 (.cons (VTo.emptyN _) .nil) _, (by first | exact trivial | exact ⟨rfl, trivial⟩ | exact ⟨rfl, rfl, trivial⟩), ?_⟩
      | refine (su).call ?_
      | refine .inl ⟨_, su, ?_⟩
      | refine (ad).call ?_
      | refine .inl ⟨_, ad, ?_⟩
      | (apply Here.norm; (first | dsimp only [Env.putR, argEnv, pure1, newPtr, applyE, hset, List.length_cons, List.length_nil, List.length_append, List.set, List.cons_append, List.nil_append] | rfl); (first | dsimp only [Env.putR, argEnv, pure1, newPtr, applyE, hset, List.length_cons, List.length_nil, List.length_append, List.set, List.cons_append, List.nil_append] | rfl))
      | refine brP.t (by assumption) ?_
      | refine brP.f (by assumption) ?_
      | refine brP.tD (by assumption) ?_
      | refine brP.fD (by assumption) ?_
      | refine brP.tN (by assumption) ?_
      | refine brP.fN (by assumption) ?_
      | refine brP.introD (fun h => ?_) (fun h => ?_)
      | refine brP.introN (fun h => ?_) (fun h => ?_)
      | refine brP.intro (fun h => ?_) (fun h => ?_)
      | refine ⟨_, _, _, _, _, rfl, rfl, rfl, Fits.mk (by first | exact Nat.le_of_ble_eq_true rfl | (dsimp only; omega)), rfl, ?_⟩
      | refine ⟨_, _, _, _, _, rfl, _, rfl, ?_⟩
      | refine ⟨_, _, _, _, _, rfl, Fits.mk (by first | exact Nat.le_of_ble_eq_true rfl | (dsimp only; omega)), _, rfl, ?_⟩
      | refine ⟨Fits.mk (by first | exact Nat.le_of_ble_eq_true rfl | (dsimp only; omega)), _, rfl, ?_⟩
      | refine draw_go (C_ok W0) (by kernel_rfl) ?_
      | refine ⟨cpt_ok (by kernel_rfl), ?_⟩
      | refine ⟨InB.mk (by first | decide | omega) (by first | decide | omega), ?_⟩
      | refine ⟨SlB.mk (by first | omega | decide) (by first | omega | decide) (by first | omega | decide), ?_⟩
      | refine ⟨ShB.mk (by first | decide | omega), ?_⟩
      | refine ⟨NzB.mk (by first | decide | omega), ?_⟩
      | refine ⟨by decide, MkB.mk (by omega) (by omega) (by omega) (by omega), ?_⟩
      | refine ⟨trivial, ?_⟩
      | refine ⟨by decide, rfl, by decide, ?_⟩
      | refine .inr ⟨by decide, _, _, _, _, _, rfl, rfl, Fits.mk (by first | exact Nat.le_of_ble_eq_true rfl | omega), ?_⟩
      | refine .inr ⟨by decide, by decide, Room.mk (by decide) (by decide), ?_⟩
      | refine .inr ⟨by decide, _, _, _, _, _, rfl, rfl, Room.mk (by omega) (by omega), .inr (.inr ⟨(by omega), rfl, rfl, rfl, (by first | omega | (simp; done) | (simp; omega)), (by omega), rfl, ?_⟩)⟩
      | refine ⟨by decide, ?_⟩
      | refine ⟨subHi_le _ _ _, ?_⟩
      | refine ⟨_, rfl, ?_⟩
      | fail
    all_goals first
      | rfl
      | (simp at h; done)
theorem sum_own (us : List Int) (n : Nat) (hl : us.length = n) (hR : ∀ v ∈ us, R v) (hb : n ≤ 1048576) (b c : Nat) (sp : Bool) (ty : TypeId) (nid : Nat) :
    EffC (C W0) I.wide_Sum [.slice (some ⟨b, 0, none⟩) n c] nid ⟨some (wev us.sum), [(b, .cells (wcells us) 2 true sp ty)], [], []⟩ :=
  (wide_SumN us n hl hR hb).lend (wev_af _) [(b, .cells (wcells us) 2 true sp ty)] ⟨inferInstance, trivial⟩ (.cons (VTo.lend (List.mem_singleton.mpr rfl) (by rw [Nat.zero_add, wcells_len]; omega) (by rw [List.drop_zero, List.take_of_length_le (by rw [wcells_len]; omega)])) .nil) nid
theorem sliceE {m : Nm} {a b o n n' : Nat} (h : (a, b) ∈ m) (e : n = n') : VTo (NmR m) (.slice (some ⟨a, o, none⟩) n n) (.slice (some ⟨b, o, none⟩) n' n') := by
  subst e; exact VTo.slice h
/-- Where the list is cut. -/
structure CutAt (k : Int) (n c : Nat) : Prop where
  le : c ≤ n
  e : 0 < k → k.tmod (IntKind.i64.wrap ((n : Int) + 1)) = (c : Int)
theorem turn_cells {us : List Int} {c : Nat} (hc : c ≤ us.length) : ((wcells (us.drop c)).drop 0).take ((((us.length : Nat) : Int).toNat - ((c : Nat) : Int).toNat) * 2) ++ wcells (us.take c) = wcells (us.drop c ++ us.take c) := by
  rw [List.drop_zero, List.take_of_length_le (by rw [wcells_len, List.length_drop]; omega), wcells_app]
theorem turn_ok {us : List Int} {c : Nat} (hR : ∀ v ∈ us, R v) : (us.drop c ++ us.take c).length = us.length ∧ (us.drop c ++ us.take c).sum = us.sum ∧ ∀ v ∈ us.drop c ++ us.take c, R v := by
  refine ⟨by rw [List.length_append, List.length_drop, List.length_take]; omega, ?_, fun v h => ?_⟩
  · rw [List.sum_append, Int.add_comm, ← List.sum_append, List.take_append_drop]
  · rcases List.mem_append.mp h with h | h
    · exact hR v (List.mem_of_mem_drop h)
    · exact hR v (List.mem_of_mem_take h)
set_option maxHeartbeats 8000000 in
theorem shuf (us : List Int) (k : Int) (hR : ∀ v ∈ us, R v) (hn : us.length ≤ 1048576) (h0 : 0 < us.length) (c : Nat) (cut : CutAt k us.length c) : PureF (C W0) I.tumblerlaw01_WideShuffles [LV (wcells us) us.length, .int .i64 k] (.bool true) := by
  have al := alive (W0 := W0)
  have so := sum_own (W0 := W0) us us.length rfl hR hn 0 us.length true Y.api_Wide
  have lw : (wcells us).length = us.length * 2 := by rw [wcells_len]; omega
  refine PureF.E (CallP.of_body (C_ok W0) B.tumblerlaw01_WideShuffles rfl rfl rfl ?_)
  repeat' first
    | refine (al).call ?_
    | refine .inl ⟨_, al, ?_⟩
    | refine ⟨lw, ?_⟩
    | refine .inr ⟨h0, by decide, Room.mk (by omega) (by omega), ?_⟩
    | refine (so _).call (by first | exact trivial | exact ⟨rfl, trivial⟩ | exact ⟨rfl, rfl, trivial⟩) ?_
    | refine .inr ⟨_, so _, (by first | exact trivial | exact ⟨rfl, trivial⟩ | exact ⟨rfl, rfl, trivial⟩), ?_⟩
    | (apply Here.norm; (first | dsimp only [Env.putR, argEnv, pure1, newPtr, applyE, hset, List.length_cons, List.length_nil, List.length_append, List.set, List.cons_append, List.nil_append] | rfl); (first | dsimp only [Env.putR, argEnv, pure1, newPtr, applyE, hset, List.length_cons, List.length_nil, List.length_append, List.set, List.cons_append, List.nil_append] | rfl))
    | refine brP.t (by assumption) ?_
    | refine brP.f (by assumption) ?_
    | refine brP.tD (by assumption) ?_
    | refine brP.fD (by assumption) ?_
    | refine brP.tN (by assumption) ?_
    | refine brP.fN (by assumption) ?_
    | refine brP.introD (fun h => ?_) (fun h => ?_)
    | refine brP.introN (fun h => ?_) (fun h => ?_)
    | refine brP.intro (fun h => ?_) (fun h => ?_)
    | refine ⟨_, _, _, _, _, rfl, rfl, rfl, Fits.mk (by first | exact Nat.le_of_ble_eq_true rfl | (dsimp only; omega)), rfl, ?_⟩
    | refine ⟨_, _, _, _, _, rfl, _, rfl, ?_⟩
    | refine ⟨_, _, _, _, _, rfl, Fits.mk (by first | exact Nat.le_of_ble_eq_true rfl | (dsimp only; omega)), _, rfl, ?_⟩
    | refine ⟨Fits.mk (by first | exact Nat.le_of_ble_eq_true rfl | (dsimp only; omega)), _, rfl, ?_⟩
    | refine draw_go (C_ok W0) (by kernel_rfl) ?_
    | refine ⟨cpt_ok (by kernel_rfl), ?_⟩
    | refine ⟨InB.mk (by first | decide | omega) (by first | decide | omega), ?_⟩
    | refine ⟨SlB.mk (by first | omega | decide) (by first | omega | decide) (by first | omega | decide), ?_⟩
    | refine ⟨ShB.mk (by first | decide | omega), ?_⟩
    | refine ⟨NzB.mk (by first | decide | omega), ?_⟩
    | refine ⟨by decide, MkB.mk (by omega) (by omega) (by omega) (by omega), ?_⟩
    | refine ⟨trivial, ?_⟩
    | refine ⟨by decide, rfl, by decide, ?_⟩
    | refine .inr ⟨by decide, _, _, _, _, _, rfl, rfl, Fits.mk (by first | exact Nat.le_of_ble_eq_true rfl | omega), ?_⟩
    | refine .inr ⟨by decide, by decide, Room.mk (by decide) (by decide), ?_⟩
    | refine .inr ⟨by decide, _, _, _, _, _, rfl, rfl, Room.mk (by omega) (by omega), .inr (.inr ⟨(by omega), rfl, rfl, rfl, (by first | omega | (simp; done) | (simp; omega)), (by omega), rfl, ?_⟩)⟩
    | refine ⟨by decide, ?_⟩
    | refine ⟨subHi_le _ _ _, ?_⟩
    | refine ⟨_, rfl, ?_⟩
    | fail
  refine loop_I (C_ok W0) (fun j : Nat => j ≤ us.length) (fun j => [(0, LV (wcells us) us.length), (1, .int .i64 k), (5, .slice (some ⟨0, 0, none⟩) us.length us.length), (6, .pointer (some ⟨1, 0, none⟩)), (7, .int .i64 (wenc us.sum).2), (8, .int .i64 j)])
    (fun _ => [.cells (wcells us) 2 true true Y.api_Wide, wb1 us.sum]) (fun j => us.length - j) 0 (Nat.zero_le _) ⟨_, rfl, RT.of_eq rfl rfl⟩ ?_
  intro j hj
  dsimp only
  by_cases hjn : j < us.length
  · have hv : us[j]? = some (us.getD j 0) := by rw [List.getD_eq_getElem?_getD, List.getElem?_eq_getElem hjn]; rfl
    have hld : ((wcells us).drop (((j : Int).toNat) * 2)).take 2 = [.int .i64 (us.getD j 0 / 18446744073709551616), .int .u64 (us.getD j 0 % 18446744073709551616)] := wcells_at us j _ hv
    have hld2 : ((wcells us).drop (0 + ((j : Int).toNat) * 2)).take 2 = [.int .i64 (us.getD j 0 / 18446744073709551616), .int .u64 (us.getD j 0 % 18446744073709551616)] := by rw [Nat.zero_add]; exact hld
    have hle : ((j : Int).toNat) * 2 + 2 ≤ (wcells us).length := by rw [wcells_len]; omega
    have hle2 : 0 + ((j : Int).toNat) * 2 + 2 ≤ (wcells us).length := by rw [wcells_len]; omega
    repeat' first
      | refine brP.tD (by omega) ?_
      | refine brP.fD (by omega) ?_
      | refine brP.tN (by omega) ?_
      | refine brP.fN (by omega) ?_
      | refine brP.f (ne_same2 _ _) ?_
      | refine ⟨_, _, _, _, _, rfl, Fits.mk hle2, _, hld2, ?_⟩
      | refine ⟨Fits.mk hle, _, hld, ?_⟩
      | (apply Here.norm; (first | dsimp only [Env.putR, argEnv, pure1, newPtr, applyE, hset, List.length_cons, List.length_nil, List.length_append, List.set, List.cons_append, List.nil_append] | rfl); (first | dsimp only [Env.putR, argEnv, pure1, newPtr, applyE, hset, List.length_cons, List.length_nil, List.length_append, List.set, List.cons_append, List.nil_append] | rfl))
      | refine brP.t (by assumption) ?_
      | refine brP.f (by assumption) ?_
      | refine brP.tD (by assumption) ?_
      | refine brP.fD (by assumption) ?_
      | refine brP.tN (by assumption) ?_
      | refine brP.fN (by assumption) ?_
      | refine brP.introD (fun h => ?_) (fun h => ?_)
      | refine brP.introN (fun h => ?_) (fun h => ?_)
      | refine brP.intro (fun h => ?_) (fun h => ?_)
      | refine ⟨_, _, _, _, _, rfl, rfl, rfl, Fits.mk (by first | exact Nat.le_of_ble_eq_true rfl | (dsimp only; omega)), rfl, ?_⟩
      | refine ⟨_, _, _, _, _, rfl, _, rfl, ?_⟩
      | refine ⟨_, _, _, _, _, rfl, Fits.mk (by first | exact Nat.le_of_ble_eq_true rfl | (dsimp only; omega)), _, rfl, ?_⟩
      | refine ⟨Fits.mk (by first | exact Nat.le_of_ble_eq_true rfl | (dsimp only; omega)), _, rfl, ?_⟩
      | refine draw_go (C_ok W0) (by kernel_rfl) ?_
      | refine ⟨cpt_ok (by kernel_rfl), ?_⟩
      | refine ⟨InB.mk (by first | decide | omega) (by first | decide | omega), ?_⟩
      | refine ⟨SlB.mk (by first | omega | decide) (by first | omega | decide) (by first | omega | decide), ?_⟩
      | refine ⟨ShB.mk (by first | decide | omega), ?_⟩
      | refine ⟨NzB.mk (by first | decide | omega), ?_⟩
      | refine ⟨by decide, MkB.mk (by omega) (by omega) (by omega) (by omega), ?_⟩
      | refine ⟨trivial, ?_⟩
      | refine ⟨by decide, rfl, by decide, ?_⟩
      | refine .inr ⟨by decide, _, _, _, _, _, rfl, rfl, Fits.mk (by first | exact Nat.le_of_ble_eq_true rfl | omega), ?_⟩
      | refine .inr ⟨by decide, by decide, Room.mk (by decide) (by decide), ?_⟩
      | refine .inr ⟨by decide, _, _, _, _, _, rfl, rfl, Room.mk (by omega) (by omega), .inr (.inr ⟨(by omega), rfl, rfl, rfl, (by first | omega | (simp; done) | (simp; omega)), (by omega), rfl, ?_⟩)⟩
      | refine ⟨by decide, ?_⟩
      | refine ⟨subHi_le _ _ _, ?_⟩
      | refine ⟨_, rfl, ?_⟩
      | fail
    apply Again.mk (j + 1)
    · (try dsimp only); omega
    · (try dsimp only); omega
    refine ⟨_, rfl, ?_⟩
    refine RT.ren [0, 1] rfl rfl ?_ ?_
    all_goals (repeat' first
      | exact trivial
      | exact LTo.nil
      | refine ⟨⟨_, rfl, ?_, (fun z => by cases z)⟩, ?_⟩
      | refine BTo.cells (fun z => z) ?_
      | refine BTo.cells (fun z => by cases z) ?_
      | exact VTo.ptr (by decide)
      | exact VTo.slice (by decide)
      | exact sliceE (by decide) (by omega)
      | exact VTo.map (by decide)
      | exact VTo.emptyN _
      | refine LTo.cons ?_ ?_
      | refine VTo.int ?_
      | refine VTo.bool ?_
      | refine VTo.string ?_
      | refine VTo.agg ?_
      | refine VTo.tuple ?_
      | exact VTo.same _
      | (with_reducible rfl)
      | exact VTo.n rfl
      | exact LTo.n rfl
      | refine LTo.n ?_
      | refine VTo.n ?_
      )
    rw [wrap_in (by omega)]; omega
  · have hjn : j = us.length := by omega
    have nw : IntKind.i64.wrap ((us.length : Int) + 1) = (us.length : Int) + 1 := wrap_in (by omega)
    have hc := cut.le
    by_cases hk : 0 < k
    · have ce := cut.e hk
      by_cases z : c = 0
      ·
        repeat' first
          | refine brP.tD (by omega) ?_
          | refine brP.fD (by omega) ?_
          | refine brP.tN (by omega) ?_
          | refine brP.fN (by omega) ?_
          | (apply Here.norm; (first | dsimp only [Env.putR, argEnv, pure1, newPtr, applyE, hset, List.length_cons, List.length_nil, List.length_append, List.set, List.cons_append, List.nil_append] | rfl); (first | dsimp only [Env.putR, argEnv, pure1, newPtr, applyE, hset, List.length_cons, List.length_nil, List.length_append, List.set, List.cons_append, List.nil_append] | rfl))
          | refine brP.t (by assumption) ?_
          | refine brP.f (by assumption) ?_
          | refine brP.tD (by assumption) ?_
          | refine brP.fD (by assumption) ?_
          | refine brP.tN (by assumption) ?_
          | refine brP.fN (by assumption) ?_
          | refine brP.introD (fun h => ?_) (fun h => ?_)
          | refine brP.introN (fun h => ?_) (fun h => ?_)
          | refine brP.intro (fun h => ?_) (fun h => ?_)
          | refine ⟨_, _, _, _, _, rfl, rfl, rfl, Fits.mk (by first | exact Nat.le_of_ble_eq_true rfl | (dsimp only; omega)), rfl, ?_⟩
          | refine ⟨_, _, _, _, _, rfl, _, rfl, ?_⟩
          | refine ⟨_, _, _, _, _, rfl, Fits.mk (by first | exact Nat.le_of_ble_eq_true rfl | (dsimp only; omega)), _, rfl, ?_⟩
          | refine ⟨Fits.mk (by first | exact Nat.le_of_ble_eq_true rfl | (dsimp only; omega)), _, rfl, ?_⟩
          | refine draw_go (C_ok W0) (by kernel_rfl) ?_
          | refine ⟨cpt_ok (by kernel_rfl), ?_⟩
          | refine ⟨InB.mk (by first | decide | omega) (by first | decide | omega), ?_⟩
          | refine ⟨SlB.mk (by first | omega | decide) (by first | omega | decide) (by first | omega | decide), ?_⟩
          | refine ⟨ShB.mk (by first | decide | omega), ?_⟩
          | refine ⟨NzB.mk (by first | decide | omega), ?_⟩
          | refine ⟨by decide, MkB.mk (by omega) (by omega) (by omega) (by omega), ?_⟩
          | refine ⟨trivial, ?_⟩
          | refine ⟨by decide, rfl, by decide, ?_⟩
          | refine .inr ⟨by decide, _, _, _, _, _, rfl, rfl, Fits.mk (by first | exact Nat.le_of_ble_eq_true rfl | omega), ?_⟩
          | refine .inr ⟨by decide, by decide, Room.mk (by decide) (by decide), ?_⟩
          | refine .inr ⟨by decide, _, _, _, _, _, rfl, rfl, Room.mk (by omega) (by omega), .inr (.inr ⟨(by omega), rfl, rfl, rfl, (by first | omega | (simp; done) | (simp; omega)), (by omega), rfl, ?_⟩)⟩
          | refine ⟨by decide, ?_⟩
          | refine ⟨subHi_le _ _ _, ?_⟩
          | refine ⟨_, rfl, ?_⟩
          | fail
        rw [ce, z]
        have hT := sl_T us (((0 : Nat) : Int)) (0) rfl (by omega)
        have hD := sl_D us (((0 : Nat) : Int)) (0) rfl (by omega)
        have xT : (((0 : Nat) : Int) : Int).toNat * 2 ≤ (wcells us).length := by rw [lw]; omega
        have xD : (us.length : Int).toNat * 2 ≤ (wcells us).length := by rw [lw]; omega
        have lD : (wcells (us.drop (0))).length = ((us.length : Int).toNat - (((0 : Nat) : Int) : Int).toNat) * 2 := by rw [wcells_len, List.length_drop]; omega
        have lT : (wcells (us.take (0))).length = ((((0 : Nat) : Int) : Int).toNat - (0 : Int).toNat) * 2 := by rw [wcells_len, List.length_take]; omega
        have h1 : 0 < (us.length : Int).toNat - ((0 : Nat) : Int).toNat := by omega
        repeat' first
          | refine brP.tD (by omega) ?_
          | refine brP.fD (by omega) ?_
          | refine brP.tN (by omega) ?_
          | refine brP.fN (by omega) ?_
          | refine ⟨xD, _, hD, ?_⟩
          | refine ⟨xT, _, hT, ?_⟩
          | refine ⟨lD, ?_⟩
          | refine ⟨lT, ?_⟩
          | refine .inr ⟨h1, by decide, Room.mk (by omega) (by omega), ?_⟩
          | refine .inl ⟨(rfl : (0 : Nat) = 0), ?_⟩
          | (apply Here.norm; (first | dsimp only [Env.putR, argEnv, pure1, newPtr, applyE, hset, List.length_cons, List.length_nil, List.length_append, List.set, List.cons_append, List.nil_append] | rfl); (first | dsimp only [Env.putR, argEnv, pure1, newPtr, applyE, hset, List.length_cons, List.length_nil, List.length_append, List.set, List.cons_append, List.nil_append] | rfl))
          | refine brP.t (by assumption) ?_
          | refine brP.f (by assumption) ?_
          | refine brP.tD (by assumption) ?_
          | refine brP.fD (by assumption) ?_
          | refine brP.tN (by assumption) ?_
          | refine brP.fN (by assumption) ?_
          | refine brP.introD (fun h => ?_) (fun h => ?_)
          | refine brP.introN (fun h => ?_) (fun h => ?_)
          | refine brP.intro (fun h => ?_) (fun h => ?_)
          | refine ⟨_, _, _, _, _, rfl, rfl, rfl, Fits.mk (by first | exact Nat.le_of_ble_eq_true rfl | (dsimp only; omega)), rfl, ?_⟩
          | refine ⟨_, _, _, _, _, rfl, _, rfl, ?_⟩
          | refine ⟨_, _, _, _, _, rfl, Fits.mk (by first | exact Nat.le_of_ble_eq_true rfl | (dsimp only; omega)), _, rfl, ?_⟩
          | refine ⟨Fits.mk (by first | exact Nat.le_of_ble_eq_true rfl | (dsimp only; omega)), _, rfl, ?_⟩
          | refine draw_go (C_ok W0) (by kernel_rfl) ?_
          | refine ⟨cpt_ok (by kernel_rfl), ?_⟩
          | refine ⟨InB.mk (by first | decide | omega) (by first | decide | omega), ?_⟩
          | refine ⟨SlB.mk (by first | omega | decide) (by first | omega | decide) (by first | omega | decide), ?_⟩
          | refine ⟨ShB.mk (by first | decide | omega), ?_⟩
          | refine ⟨NzB.mk (by first | decide | omega), ?_⟩
          | refine ⟨by decide, MkB.mk (by omega) (by omega) (by omega) (by omega), ?_⟩
          | refine ⟨trivial, ?_⟩
          | refine ⟨by decide, rfl, by decide, ?_⟩
          | refine .inr ⟨by decide, _, _, _, _, _, rfl, rfl, Fits.mk (by first | exact Nat.le_of_ble_eq_true rfl | omega), ?_⟩
          | refine .inr ⟨by decide, by decide, Room.mk (by decide) (by decide), ?_⟩
          | refine .inr ⟨by decide, _, _, _, _, _, rfl, rfl, Room.mk (by omega) (by omega), .inr (.inr ⟨(by omega), rfl, rfl, rfl, (by first | omega | (simp; done) | (simp; omega)), (by omega), rfl, ?_⟩)⟩
          | refine ⟨by decide, ?_⟩
          | refine ⟨subHi_le _ _ _, ?_⟩
          | refine ⟨_, rfl, ?_⟩
          | fail
        have sT := wide_SumN (W0 := W0) (us.take (0)) ((((0 : Nat) : Int) : Int).toNat - (0 : Int).toNat) (by rw [List.length_take]; omega) (fun v h => hR v (List.mem_of_mem_take h)) (by omega)
        have sD := wide_SumN (W0 := W0) (us.drop (0)) ((us.length : Int).toNat - (((0 : Nat) : Int) : Int).toNat) (by rw [List.length_drop]; omega) (fun v h => hR v (List.mem_of_mem_drop h)) (by omega)
        have ad := wide_Add (W0 := W0) (wenc (us.take (0)).sum).1 (wenc (us.drop (0)).sum).1 (wenc_Rk _) (wenc_Rk _)
        refine loop_I (C_ok W0) (fun p : Nat × List Int => p.1 ≤ us.length ∧ p.2.length = us.length ∧ p.2.sum = us.sum ∧ ∀ v ∈ p.2, R v)
          (fun p => [(0, LV (wcells us) us.length), (6, .pointer (some ⟨0, 0, none⟩)), (7, .int .i64 (wenc us.sum).2), (9, .int .i64 ((0 : Nat) : Int)), (10, .slice (some ⟨1, 0, none⟩) us.length us.length), (11, .int .i64 p.1)])
          (fun p => [wb1 us.sum, .cells (wcells p.2) 2 true true Y.api_Wide]) (fun p => us.length - p.1) (0, us.drop 0) ⟨Nat.zero_le _, rfl, rfl, hR⟩ ⟨_, rfl, ?_⟩ ?_
        · dsimp only [List.map]
          refine RT.ren [1, 2] rfl rfl ?_ ?_
          all_goals (repeat' first
            | exact trivial
            | exact LTo.nil
            | refine ⟨⟨_, rfl, ?_, (fun z => by cases z)⟩, ?_⟩
            | refine BTo.cells (fun z => z) ?_
            | refine BTo.cells (fun z => by cases z) ?_
            | exact VTo.ptr (by decide)
            | exact VTo.slice (by decide)
            | exact sliceE (by decide) (by omega)
            | exact VTo.map (by decide)
            | exact VTo.emptyN _
            | refine LTo.cons ?_ ?_
            | refine VTo.int ?_
            | refine VTo.bool ?_
            | refine VTo.string ?_
            | refine VTo.agg ?_
            | refine VTo.tuple ?_
            | exact VTo.same _
            | (with_reducible rfl)
            | exact VTo.n rfl
            | exact LTo.n rfl
            | refine LTo.n ?_
            | refine VTo.n ?_
            )
          all_goals first
            | rfl
            | (rfl)
        rintro ⟨j, ws⟩ ⟨g1, g2, g3, g4⟩
        dsimp only at g1 g2 g3 g4 ⊢
        have lv : (wcells ws).length = us.length * 2 := by rw [wcells_len]; omega
        have q : IntKind.i64.wrap (Int.tdiv (us.length : Int) 2) = ((us.length / 2 : Nat) : Int) := by rw [Int.tdiv_eq_ediv_of_nonneg (by omega), wrap_in (by omega)]; omega
        by_cases gj : j < us.length / 2
        · have wm0 : IntKind.i64.wrap ((us.length : Int) - 1) = ((us.length - 1 : Nat) : Int) := by rw [wrap_in (by omega)]; omega
          have wm : IntKind.i64.wrap (IntKind.i64.wrap ((us.length : Int) - 1) - (j : Int)) = ((us.length - 1 - j : Nat) : Int) := by rw [wm0, wrap_in (by omega)]; omega
          have v1 : ws[j]? = some (ws.getD j 0) := by rw [List.getD_eq_getElem?_getD, List.getElem?_eq_getElem (by omega)]; rfl
          have v2 : ws[us.length - 1 - j]? = some (ws.getD (us.length - 1 - j) 0) := by rw [List.getD_eq_getElem?_getD, List.getElem?_eq_getElem (by omega)]; rfl
          have e1 : ((wcells ws).drop (0 + (IntKind.i64.wrap (IntKind.i64.wrap ((us.length : Int) - 1) - (j : Int))).toNat * 2)).take 2 = [.int .i64 (ws.getD (us.length - 1 - j) 0 / 18446744073709551616), .int .u64 (ws.getD (us.length - 1 - j) 0 % 18446744073709551616)] := by rw [wm, Nat.zero_add]; exact wcells_at ws _ _ v2
          have e2 : ((wcells ws).drop (0 + ((j : Int).toNat) * 2)).take 2 = [.int .i64 (ws.getD j 0 / 18446744073709551616), .int .u64 (ws.getD j 0 % 18446744073709551616)] := by rw [Nat.zero_add]; exact wcells_at ws _ _ v1
          have f1 : 0 + (IntKind.i64.wrap (IntKind.i64.wrap ((us.length : Int) - 1) - (j : Int))).toNat * 2 + 2 ≤ (wcells ws).length := by rw [wm, lv]; omega
          have f2 : 0 + ((j : Int).toNat) * 2 + 2 ≤ (wcells ws).length := by rw [lv]; omega
          have f3 := swap_fit (us := us) (ws := ws) (j := j) g2 gj
          rw [← wm] at f3
          have ok := swap_ok (us := us) (ws := ws) (j := j) g2 g3 g4 gj
          have sc := swap_cells (us := us) (ws := ws) (j := j) g2 gj
          rw [← wm] at sc
          repeat' first
            | refine brP.tD (by omega) ?_
            | refine brP.fD (by omega) ?_
            | refine brP.tN (by omega) ?_
            | refine brP.fN (by omega) ?_
            | refine ⟨_, _, _, _, _, rfl, Fits.mk f1, _, e1, ?_⟩
            | refine ⟨_, _, _, _, _, rfl, Fits.mk f2, _, e2, ?_⟩
            | refine ⟨_, _, _, _, _, rfl, rfl, rfl, Fits.mk f2, rfl, ?_⟩
            | refine ⟨_, _, _, _, _, rfl, rfl, rfl, Fits.mk f3, rfl, ?_⟩
            | (apply Here.norm; (first | dsimp only [Env.putR, argEnv, pure1, newPtr, applyE, hset, List.length_cons, List.length_nil, List.length_append, List.set, List.cons_append, List.nil_append] | rfl); (first | dsimp only [Env.putR, argEnv, pure1, newPtr, applyE, hset, List.length_cons, List.length_nil, List.length_append, List.set, List.cons_append, List.nil_append] | rfl))
            | refine brP.t (by assumption) ?_
            | refine brP.f (by assumption) ?_
            | refine brP.tD (by assumption) ?_
            | refine brP.fD (by assumption) ?_
            | refine brP.tN (by assumption) ?_
            | refine brP.fN (by assumption) ?_
            | refine brP.introD (fun h => ?_) (fun h => ?_)
            | refine brP.introN (fun h => ?_) (fun h => ?_)
            | refine brP.intro (fun h => ?_) (fun h => ?_)
            | refine ⟨_, _, _, _, _, rfl, rfl, rfl, Fits.mk (by first | exact Nat.le_of_ble_eq_true rfl | (dsimp only; omega)), rfl, ?_⟩
            | refine ⟨_, _, _, _, _, rfl, _, rfl, ?_⟩
            | refine ⟨_, _, _, _, _, rfl, Fits.mk (by first | exact Nat.le_of_ble_eq_true rfl | (dsimp only; omega)), _, rfl, ?_⟩
            | refine ⟨Fits.mk (by first | exact Nat.le_of_ble_eq_true rfl | (dsimp only; omega)), _, rfl, ?_⟩
            | refine draw_go (C_ok W0) (by kernel_rfl) ?_
            | refine ⟨cpt_ok (by kernel_rfl), ?_⟩
            | refine ⟨InB.mk (by first | decide | omega) (by first | decide | omega), ?_⟩
            | refine ⟨SlB.mk (by first | omega | decide) (by first | omega | decide) (by first | omega | decide), ?_⟩
            | refine ⟨ShB.mk (by first | decide | omega), ?_⟩
            | refine ⟨NzB.mk (by first | decide | omega), ?_⟩
            | refine ⟨by decide, MkB.mk (by omega) (by omega) (by omega) (by omega), ?_⟩
            | refine ⟨trivial, ?_⟩
            | refine ⟨by decide, rfl, by decide, ?_⟩
            | refine .inr ⟨by decide, _, _, _, _, _, rfl, rfl, Fits.mk (by first | exact Nat.le_of_ble_eq_true rfl | omega), ?_⟩
            | refine .inr ⟨by decide, by decide, Room.mk (by decide) (by decide), ?_⟩
            | refine .inr ⟨by decide, _, _, _, _, _, rfl, rfl, Room.mk (by omega) (by omega), .inr (.inr ⟨(by omega), rfl, rfl, rfl, (by first | omega | (simp; done) | (simp; omega)), (by omega), rfl, ?_⟩)⟩
            | refine ⟨by decide, ?_⟩
            | refine ⟨subHi_le _ _ _, ?_⟩
            | refine ⟨_, rfl, ?_⟩
            | fail
          apply Again.mk (j + 1, (ws.set j (ws.getD (us.length - 1 - j) 0)).set (us.length - 1 - j) (ws.getD j 0))
          · exact ⟨by dsimp only; omega, ok.1, ok.2.1, ok.2.2⟩
          · dsimp only; omega
          refine ⟨_, rfl, ?_⟩
          refine RT.ren [0, 1] rfl rfl ?_ ?_
          all_goals (repeat' first
            | exact trivial
            | exact LTo.nil
            | refine ⟨⟨_, rfl, ?_, (fun z => by cases z)⟩, ?_⟩
            | refine BTo.cells (fun z => z) ?_
            | refine BTo.cells (fun z => by cases z) ?_
            | exact VTo.ptr (by decide)
            | exact VTo.slice (by decide)
            | exact sliceE (by decide) (by omega)
            | exact VTo.map (by decide)
            | exact VTo.emptyN _
            | refine LTo.cons ?_ ?_
            | refine VTo.int ?_
            | refine VTo.bool ?_
            | refine VTo.string ?_
            | refine VTo.agg ?_
            | refine VTo.tuple ?_
            | exact VTo.same _
            | (with_reducible rfl)
            | exact VTo.n rfl
            | exact LTo.n rfl
            | refine LTo.n ?_
            | refine VTo.n ?_
            )
          · exact sc
          · rw [wrap_in (by omega)]; omega
        · have so2 := sum_own (W0 := W0) ws us.length g2 g4 hn 1 us.length true Y.api_Wide
          rw [g3] at so2
          repeat' first
            | refine brP.tD (by omega) ?_
            | refine brP.fD (by omega) ?_
            | refine brP.tN (by omega) ?_
            | refine brP.fN (by omega) ?_
            | refine (so2 _).call (by first | exact trivial | exact ⟨rfl, trivial⟩ | exact ⟨rfl, rfl, trivial⟩) ?_
            | refine .inr ⟨_, so2 _, (by first | exact trivial | exact ⟨rfl, trivial⟩ | exact ⟨rfl, rfl, trivial⟩), ?_⟩
            | refine brP.f (ne_same2 _ _) ?_
            | refine brP.f (ne_same _) ?_
            | refine ⟨xD, _, hD, ?_⟩
            | refine ⟨xT, _, hT, ?_⟩
            | refine (sT).call ?_
            | refine .inl ⟨_, sT, ?_⟩
            | refine (sD).call ?_
            | refine .inl ⟨_, sD, ?_⟩
            | refine (ad).call ?_
            | refine .inl ⟨_, ad, ?_⟩
            | (apply Here.norm; (first | dsimp only [Env.putR, argEnv, pure1, newPtr, applyE, hset, List.length_cons, List.length_nil, List.length_append, List.set, List.cons_append, List.nil_append] | rfl); (first | dsimp only [Env.putR, argEnv, pure1, newPtr, applyE, hset, List.length_cons, List.length_nil, List.length_append, List.set, List.cons_append, List.nil_append] | rfl))
            | refine brP.t (by assumption) ?_
            | refine brP.f (by assumption) ?_
            | refine brP.tD (by assumption) ?_
            | refine brP.fD (by assumption) ?_
            | refine brP.tN (by assumption) ?_
            | refine brP.fN (by assumption) ?_
            | refine brP.introD (fun h => ?_) (fun h => ?_)
            | refine brP.introN (fun h => ?_) (fun h => ?_)
            | refine brP.intro (fun h => ?_) (fun h => ?_)
            | refine ⟨_, _, _, _, _, rfl, rfl, rfl, Fits.mk (by first | exact Nat.le_of_ble_eq_true rfl | (dsimp only; omega)), rfl, ?_⟩
            | refine ⟨_, _, _, _, _, rfl, _, rfl, ?_⟩
            | refine ⟨_, _, _, _, _, rfl, Fits.mk (by first | exact Nat.le_of_ble_eq_true rfl | (dsimp only; omega)), _, rfl, ?_⟩
            | refine ⟨Fits.mk (by first | exact Nat.le_of_ble_eq_true rfl | (dsimp only; omega)), _, rfl, ?_⟩
            | refine draw_go (C_ok W0) (by kernel_rfl) ?_
            | refine ⟨cpt_ok (by kernel_rfl), ?_⟩
            | refine ⟨InB.mk (by first | decide | omega) (by first | decide | omega), ?_⟩
            | refine ⟨SlB.mk (by first | omega | decide) (by first | omega | decide) (by first | omega | decide), ?_⟩
            | refine ⟨ShB.mk (by first | decide | omega), ?_⟩
            | refine ⟨NzB.mk (by first | decide | omega), ?_⟩
            | refine ⟨by decide, MkB.mk (by omega) (by omega) (by omega) (by omega), ?_⟩
            | refine ⟨trivial, ?_⟩
            | refine ⟨by decide, rfl, by decide, ?_⟩
            | refine .inr ⟨by decide, _, _, _, _, _, rfl, rfl, Fits.mk (by first | exact Nat.le_of_ble_eq_true rfl | omega), ?_⟩
            | refine .inr ⟨by decide, by decide, Room.mk (by decide) (by decide), ?_⟩
            | refine .inr ⟨by decide, _, _, _, _, _, rfl, rfl, Room.mk (by omega) (by omega), .inr (.inr ⟨(by omega), rfl, rfl, rfl, (by first | omega | (simp; done) | (simp; omega)), (by omega), rfl, ?_⟩)⟩
            | refine ⟨by decide, ?_⟩
            | refine ⟨subHi_le _ _ _, ?_⟩
            | refine ⟨_, rfl, ?_⟩
            | fail
          all_goals first
            | rfl
            | exact congrArg Value.bool (decide_eq_true (congrArg Prod.snd (two_sums (us := us) (c := (0)) (by first | assumption | rfl) (by first | assumption | rfl))))
            | (have t := two_sums (us := us) (c := (0)) (by first | assumption | rfl) (by first | assumption | rfl); rw [t] at h; simp at h; done)
      · by_cases zn : c = us.length
        ·
          repeat' first
            | refine brP.tD (by omega) ?_
            | refine brP.fD (by omega) ?_
            | refine brP.tN (by omega) ?_
            | refine brP.fN (by omega) ?_
            | (apply Here.norm; (first | dsimp only [Env.putR, argEnv, pure1, newPtr, applyE, hset, List.length_cons, List.length_nil, List.length_append, List.set, List.cons_append, List.nil_append] | rfl); (first | dsimp only [Env.putR, argEnv, pure1, newPtr, applyE, hset, List.length_cons, List.length_nil, List.length_append, List.set, List.cons_append, List.nil_append] | rfl))
            | refine brP.t (by assumption) ?_
            | refine brP.f (by assumption) ?_
            | refine brP.tD (by assumption) ?_
            | refine brP.fD (by assumption) ?_
            | refine brP.tN (by assumption) ?_
            | refine brP.fN (by assumption) ?_
            | refine brP.introD (fun h => ?_) (fun h => ?_)
            | refine brP.introN (fun h => ?_) (fun h => ?_)
            | refine brP.intro (fun h => ?_) (fun h => ?_)
            | refine ⟨_, _, _, _, _, rfl, rfl, rfl, Fits.mk (by first | exact Nat.le_of_ble_eq_true rfl | (dsimp only; omega)), rfl, ?_⟩
            | refine ⟨_, _, _, _, _, rfl, _, rfl, ?_⟩
            | refine ⟨_, _, _, _, _, rfl, Fits.mk (by first | exact Nat.le_of_ble_eq_true rfl | (dsimp only; omega)), _, rfl, ?_⟩
            | refine ⟨Fits.mk (by first | exact Nat.le_of_ble_eq_true rfl | (dsimp only; omega)), _, rfl, ?_⟩
            | refine draw_go (C_ok W0) (by kernel_rfl) ?_
            | refine ⟨cpt_ok (by kernel_rfl), ?_⟩
            | refine ⟨InB.mk (by first | decide | omega) (by first | decide | omega), ?_⟩
            | refine ⟨SlB.mk (by first | omega | decide) (by first | omega | decide) (by first | omega | decide), ?_⟩
            | refine ⟨ShB.mk (by first | decide | omega), ?_⟩
            | refine ⟨NzB.mk (by first | decide | omega), ?_⟩
            | refine ⟨by decide, MkB.mk (by omega) (by omega) (by omega) (by omega), ?_⟩
            | refine ⟨trivial, ?_⟩
            | refine ⟨by decide, rfl, by decide, ?_⟩
            | refine .inr ⟨by decide, _, _, _, _, _, rfl, rfl, Fits.mk (by first | exact Nat.le_of_ble_eq_true rfl | omega), ?_⟩
            | refine .inr ⟨by decide, by decide, Room.mk (by decide) (by decide), ?_⟩
            | refine .inr ⟨by decide, _, _, _, _, _, rfl, rfl, Room.mk (by omega) (by omega), .inr (.inr ⟨(by omega), rfl, rfl, rfl, (by first | omega | (simp; done) | (simp; omega)), (by omega), rfl, ?_⟩)⟩
            | refine ⟨by decide, ?_⟩
            | refine ⟨subHi_le _ _ _, ?_⟩
            | refine ⟨_, rfl, ?_⟩
            | fail
          rw [ce, zn]
          have hT := sl_T us ((us.length : Int)) (us.length) rfl (by omega)
          have hD := sl_D us ((us.length : Int)) (us.length) rfl (by omega)
          have xT : ((us.length : Int) : Int).toNat * 2 ≤ (wcells us).length := by rw [lw]; omega
          have xD : (us.length : Int).toNat * 2 ≤ (wcells us).length := by rw [lw]; omega
          have lD : (wcells (us.drop (us.length))).length = ((us.length : Int).toNat - ((us.length : Int) : Int).toNat) * 2 := by rw [wcells_len, List.length_drop]; omega
          have lT : (wcells (us.take (us.length))).length = (((us.length : Int) : Int).toNat - (0 : Int).toNat) * 2 := by rw [wcells_len, List.length_take]; omega
          have h1 : 0 < (us.length : Int).toNat - (0 : Int).toNat := by omega
          have e0 : (us.length : Int).toNat - (us.length : Int).toNat = 0 := Nat.sub_self _
          repeat' first
            | refine brP.tD (by omega) ?_
            | refine brP.fD (by omega) ?_
            | refine brP.tN (by omega) ?_
            | refine brP.fN (by omega) ?_
            | refine ⟨xD, _, hD, ?_⟩
            | refine ⟨xT, _, hT, ?_⟩
            | refine ⟨lD, ?_⟩
            | refine ⟨lT, ?_⟩
            | refine .inl ⟨e0, ?_⟩
            | refine .inr ⟨h1, by decide, Room.mk (by omega) (by omega), ?_⟩
            | (apply Here.norm; (first | dsimp only [Env.putR, argEnv, pure1, newPtr, applyE, hset, List.length_cons, List.length_nil, List.length_append, List.set, List.cons_append, List.nil_append] | rfl); (first | dsimp only [Env.putR, argEnv, pure1, newPtr, applyE, hset, List.length_cons, List.length_nil, List.length_append, List.set, List.cons_append, List.nil_append] | rfl))
            | refine brP.t (by assumption) ?_
            | refine brP.f (by assumption) ?_
            | refine brP.tD (by assumption) ?_
            | refine brP.fD (by assumption) ?_
            | refine brP.tN (by assumption) ?_
            | refine brP.fN (by assumption) ?_
            | refine brP.introD (fun h => ?_) (fun h => ?_)
            | refine brP.introN (fun h => ?_) (fun h => ?_)
            | refine brP.intro (fun h => ?_) (fun h => ?_)
            | refine ⟨_, _, _, _, _, rfl, rfl, rfl, Fits.mk (by first | exact Nat.le_of_ble_eq_true rfl | (dsimp only; omega)), rfl, ?_⟩
            | refine ⟨_, _, _, _, _, rfl, _, rfl, ?_⟩
            | refine ⟨_, _, _, _, _, rfl, Fits.mk (by first | exact Nat.le_of_ble_eq_true rfl | (dsimp only; omega)), _, rfl, ?_⟩
            | refine ⟨Fits.mk (by first | exact Nat.le_of_ble_eq_true rfl | (dsimp only; omega)), _, rfl, ?_⟩
            | refine draw_go (C_ok W0) (by kernel_rfl) ?_
            | refine ⟨cpt_ok (by kernel_rfl), ?_⟩
            | refine ⟨InB.mk (by first | decide | omega) (by first | decide | omega), ?_⟩
            | refine ⟨SlB.mk (by first | omega | decide) (by first | omega | decide) (by first | omega | decide), ?_⟩
            | refine ⟨ShB.mk (by first | decide | omega), ?_⟩
            | refine ⟨NzB.mk (by first | decide | omega), ?_⟩
            | refine ⟨by decide, MkB.mk (by omega) (by omega) (by omega) (by omega), ?_⟩
            | refine ⟨trivial, ?_⟩
            | refine ⟨by decide, rfl, by decide, ?_⟩
            | refine .inr ⟨by decide, _, _, _, _, _, rfl, rfl, Fits.mk (by first | exact Nat.le_of_ble_eq_true rfl | omega), ?_⟩
            | refine .inr ⟨by decide, by decide, Room.mk (by decide) (by decide), ?_⟩
            | refine .inr ⟨by decide, _, _, _, _, _, rfl, rfl, Room.mk (by omega) (by omega), .inr (.inr ⟨(by omega), rfl, rfl, rfl, (by first | omega | (simp; done) | (simp; omega)), (by omega), rfl, ?_⟩)⟩
            | refine ⟨by decide, ?_⟩
            | refine ⟨subHi_le _ _ _, ?_⟩
            | refine ⟨_, rfl, ?_⟩
            | fail
          have sT := wide_SumN (W0 := W0) (us.take (us.length)) (((us.length : Int) : Int).toNat - (0 : Int).toNat) (by rw [List.length_take]; omega) (fun v h => hR v (List.mem_of_mem_take h)) (by omega)
          have sD := wide_SumN (W0 := W0) (us.drop (us.length)) ((us.length : Int).toNat - ((us.length : Int) : Int).toNat) (by rw [List.length_drop]; omega) (fun v h => hR v (List.mem_of_mem_drop h)) (by omega)
          have ad := wide_Add (W0 := W0) (wenc (us.take (us.length)).sum).1 (wenc (us.drop (us.length)).sum).1 (wenc_Rk _) (wenc_Rk _)
          refine loop_I (C_ok W0) (fun p : Nat × List Int => p.1 ≤ us.length ∧ p.2.length = us.length ∧ p.2.sum = us.sum ∧ ∀ v ∈ p.2, R v)
            (fun p => [(0, LV (wcells us) us.length), (6, .pointer (some ⟨0, 0, none⟩)), (7, .int .i64 (wenc us.sum).2), (9, .int .i64 (us.length : Int)), (10, .slice (some ⟨1, 0, none⟩) us.length us.length), (11, .int .i64 p.1)])
            (fun p => [wb1 us.sum, .cells (wcells p.2) 2 true true Y.api_Wide]) (fun p => us.length - p.1) (0, us.take us.length) ⟨Nat.zero_le _, by rw [List.take_length]; exact ⟨rfl, rfl, hR⟩⟩ ⟨_, rfl, ?_⟩ ?_
          · dsimp only [List.map]
            refine RT.ren [1, 2] rfl rfl ?_ ?_
            all_goals (repeat' first
              | exact trivial
              | exact LTo.nil
              | refine ⟨⟨_, rfl, ?_, (fun z => by cases z)⟩, ?_⟩
              | refine BTo.cells (fun z => z) ?_
              | refine BTo.cells (fun z => by cases z) ?_
              | exact VTo.ptr (by decide)
              | exact VTo.slice (by decide)
              | exact sliceE (by decide) (by omega)
              | exact VTo.map (by decide)
              | exact VTo.emptyN _
              | refine LTo.cons ?_ ?_
              | refine VTo.int ?_
              | refine VTo.bool ?_
              | refine VTo.string ?_
              | refine VTo.agg ?_
              | refine VTo.tuple ?_
              | exact VTo.same _
              | (with_reducible rfl)
              | exact VTo.n rfl
              | exact LTo.n rfl
              | refine LTo.n ?_
              | refine VTo.n ?_
              )
            all_goals first
              | rfl
              | (rfl)
          rintro ⟨j, ws⟩ ⟨g1, g2, g3, g4⟩
          dsimp only at g1 g2 g3 g4 ⊢
          have lv : (wcells ws).length = us.length * 2 := by rw [wcells_len]; omega
          have q : IntKind.i64.wrap (Int.tdiv (us.length : Int) 2) = ((us.length / 2 : Nat) : Int) := by rw [Int.tdiv_eq_ediv_of_nonneg (by omega), wrap_in (by omega)]; omega
          by_cases gj : j < us.length / 2
          · have wm0 : IntKind.i64.wrap ((us.length : Int) - 1) = ((us.length - 1 : Nat) : Int) := by rw [wrap_in (by omega)]; omega
            have wm : IntKind.i64.wrap (IntKind.i64.wrap ((us.length : Int) - 1) - (j : Int)) = ((us.length - 1 - j : Nat) : Int) := by rw [wm0, wrap_in (by omega)]; omega
            have v1 : ws[j]? = some (ws.getD j 0) := by rw [List.getD_eq_getElem?_getD, List.getElem?_eq_getElem (by omega)]; rfl
            have v2 : ws[us.length - 1 - j]? = some (ws.getD (us.length - 1 - j) 0) := by rw [List.getD_eq_getElem?_getD, List.getElem?_eq_getElem (by omega)]; rfl
            have e1 : ((wcells ws).drop (0 + (IntKind.i64.wrap (IntKind.i64.wrap ((us.length : Int) - 1) - (j : Int))).toNat * 2)).take 2 = [.int .i64 (ws.getD (us.length - 1 - j) 0 / 18446744073709551616), .int .u64 (ws.getD (us.length - 1 - j) 0 % 18446744073709551616)] := by rw [wm, Nat.zero_add]; exact wcells_at ws _ _ v2
            have e2 : ((wcells ws).drop (0 + ((j : Int).toNat) * 2)).take 2 = [.int .i64 (ws.getD j 0 / 18446744073709551616), .int .u64 (ws.getD j 0 % 18446744073709551616)] := by rw [Nat.zero_add]; exact wcells_at ws _ _ v1
            have f1 : 0 + (IntKind.i64.wrap (IntKind.i64.wrap ((us.length : Int) - 1) - (j : Int))).toNat * 2 + 2 ≤ (wcells ws).length := by rw [wm, lv]; omega
            have f2 : 0 + ((j : Int).toNat) * 2 + 2 ≤ (wcells ws).length := by rw [lv]; omega
            have f3 := swap_fit (us := us) (ws := ws) (j := j) g2 gj
            rw [← wm] at f3
            have ok := swap_ok (us := us) (ws := ws) (j := j) g2 g3 g4 gj
            have sc := swap_cells (us := us) (ws := ws) (j := j) g2 gj
            rw [← wm] at sc
            repeat' first
              | refine brP.tD (by omega) ?_
              | refine brP.fD (by omega) ?_
              | refine brP.tN (by omega) ?_
              | refine brP.fN (by omega) ?_
              | refine ⟨_, _, _, _, _, rfl, Fits.mk f1, _, e1, ?_⟩
              | refine ⟨_, _, _, _, _, rfl, Fits.mk f2, _, e2, ?_⟩
              | refine ⟨_, _, _, _, _, rfl, rfl, rfl, Fits.mk f2, rfl, ?_⟩
              | refine ⟨_, _, _, _, _, rfl, rfl, rfl, Fits.mk f3, rfl, ?_⟩
              | (apply Here.norm; (first | dsimp only [Env.putR, argEnv, pure1, newPtr, applyE, hset, List.length_cons, List.length_nil, List.length_append, List.set, List.cons_append, List.nil_append] | rfl); (first | dsimp only [Env.putR, argEnv, pure1, newPtr, applyE, hset, List.length_cons, List.length_nil, List.length_append, List.set, List.cons_append, List.nil_append] | rfl))
              | refine brP.t (by assumption) ?_
              | refine brP.f (by assumption) ?_
              | refine brP.tD (by assumption) ?_
              | refine brP.fD (by assumption) ?_
              | refine brP.tN (by assumption) ?_
              | refine brP.fN (by assumption) ?_
              | refine brP.introD (fun h => ?_) (fun h => ?_)
              | refine brP.introN (fun h => ?_) (fun h => ?_)
              | refine brP.intro (fun h => ?_) (fun h => ?_)
              | refine ⟨_, _, _, _, _, rfl, rfl, rfl, Fits.mk (by first | exact Nat.le_of_ble_eq_true rfl | (dsimp only; omega)), rfl, ?_⟩
              | refine ⟨_, _, _, _, _, rfl, _, rfl, ?_⟩
              | refine ⟨_, _, _, _, _, rfl, Fits.mk (by first | exact Nat.le_of_ble_eq_true rfl | (dsimp only; omega)), _, rfl, ?_⟩
              | refine ⟨Fits.mk (by first | exact Nat.le_of_ble_eq_true rfl | (dsimp only; omega)), _, rfl, ?_⟩
              | refine draw_go (C_ok W0) (by kernel_rfl) ?_
              | refine ⟨cpt_ok (by kernel_rfl), ?_⟩
              | refine ⟨InB.mk (by first | decide | omega) (by first | decide | omega), ?_⟩
              | refine ⟨SlB.mk (by first | omega | decide) (by first | omega | decide) (by first | omega | decide), ?_⟩
              | refine ⟨ShB.mk (by first | decide | omega), ?_⟩
              | refine ⟨NzB.mk (by first | decide | omega), ?_⟩
              | refine ⟨by decide, MkB.mk (by omega) (by omega) (by omega) (by omega), ?_⟩
              | refine ⟨trivial, ?_⟩
              | refine ⟨by decide, rfl, by decide, ?_⟩
              | refine .inr ⟨by decide, _, _, _, _, _, rfl, rfl, Fits.mk (by first | exact Nat.le_of_ble_eq_true rfl | omega), ?_⟩
              | refine .inr ⟨by decide, by decide, Room.mk (by decide) (by decide), ?_⟩
              | refine .inr ⟨by decide, _, _, _, _, _, rfl, rfl, Room.mk (by omega) (by omega), .inr (.inr ⟨(by omega), rfl, rfl, rfl, (by first | omega | (simp; done) | (simp; omega)), (by omega), rfl, ?_⟩)⟩
              | refine ⟨by decide, ?_⟩
              | refine ⟨subHi_le _ _ _, ?_⟩
              | refine ⟨_, rfl, ?_⟩
              | fail
            apply Again.mk (j + 1, (ws.set j (ws.getD (us.length - 1 - j) 0)).set (us.length - 1 - j) (ws.getD j 0))
            · exact ⟨by dsimp only; omega, ok.1, ok.2.1, ok.2.2⟩
            · dsimp only; omega
            refine ⟨_, rfl, ?_⟩
            refine RT.ren [0, 1] rfl rfl ?_ ?_
            all_goals (repeat' first
              | exact trivial
              | exact LTo.nil
              | refine ⟨⟨_, rfl, ?_, (fun z => by cases z)⟩, ?_⟩
              | refine BTo.cells (fun z => z) ?_
              | refine BTo.cells (fun z => by cases z) ?_
              | exact VTo.ptr (by decide)
              | exact VTo.slice (by decide)
              | exact sliceE (by decide) (by omega)
              | exact VTo.map (by decide)
              | exact VTo.emptyN _
              | refine LTo.cons ?_ ?_
              | refine VTo.int ?_
              | refine VTo.bool ?_
              | refine VTo.string ?_
              | refine VTo.agg ?_
              | refine VTo.tuple ?_
              | exact VTo.same _
              | (with_reducible rfl)
              | exact VTo.n rfl
              | exact LTo.n rfl
              | refine LTo.n ?_
              | refine VTo.n ?_
              )
            · exact sc
            · rw [wrap_in (by omega)]; omega
          · have so2 := sum_own (W0 := W0) ws us.length g2 g4 hn 1 us.length true Y.api_Wide
            rw [g3] at so2
            repeat' first
              | refine brP.tD (by omega) ?_
              | refine brP.fD (by omega) ?_
              | refine brP.tN (by omega) ?_
              | refine brP.fN (by omega) ?_
              | refine (so2 _).call (by first | exact trivial | exact ⟨rfl, trivial⟩ | exact ⟨rfl, rfl, trivial⟩) ?_
              | refine .inr ⟨_, so2 _, (by first | exact trivial | exact ⟨rfl, trivial⟩ | exact ⟨rfl, rfl, trivial⟩), ?_⟩
              | refine brP.f (ne_same2 _ _) ?_
              | refine brP.f (ne_same _) ?_
              | refine ⟨xD, _, hD, ?_⟩
              | refine ⟨xT, _, hT, ?_⟩
              | refine (sT).call ?_
              | refine .inl ⟨_, sT, ?_⟩
              | refine (sD).call ?_
              | refine .inl ⟨_, sD, ?_⟩
              | refine (ad).call ?_
              | refine .inl ⟨_, ad, ?_⟩
              | (apply Here.norm; (first | dsimp only [Env.putR, argEnv, pure1, newPtr, applyE, hset, List.length_cons, List.length_nil, List.length_append, List.set, List.cons_append, List.nil_append] | rfl); (first | dsimp only [Env.putR, argEnv, pure1, newPtr, applyE, hset, List.length_cons, List.length_nil, List.length_append, List.set, List.cons_append, List.nil_append] | rfl))
              | refine brP.t (by assumption) ?_
              | refine brP.f (by assumption) ?_
              | refine brP.tD (by assumption) ?_
              | refine brP.fD (by assumption) ?_
              | refine brP.tN (by assumption) ?_
              | refine brP.fN (by assumption) ?_
              | refine brP.introD (fun h => ?_) (fun h => ?_)
              | refine brP.introN (fun h => ?_) (fun h => ?_)
              | refine brP.intro (fun h => ?_) (fun h => ?_)
              | refine ⟨_, _, _, _, _, rfl, rfl, rfl, Fits.mk (by first | exact Nat.le_of_ble_eq_true rfl | (dsimp only; omega)), rfl, ?_⟩
              | refine ⟨_, _, _, _, _, rfl, _, rfl, ?_⟩
              | refine ⟨_, _, _, _, _, rfl, Fits.mk (by first | exact Nat.le_of_ble_eq_true rfl | (dsimp only; omega)), _, rfl, ?_⟩
              | refine ⟨Fits.mk (by first | exact Nat.le_of_ble_eq_true rfl | (dsimp only; omega)), _, rfl, ?_⟩
              | refine draw_go (C_ok W0) (by kernel_rfl) ?_
              | refine ⟨cpt_ok (by kernel_rfl), ?_⟩
              | refine ⟨InB.mk (by first | decide | omega) (by first | decide | omega), ?_⟩
              | refine ⟨SlB.mk (by first | omega | decide) (by first | omega | decide) (by first | omega | decide), ?_⟩
              | refine ⟨ShB.mk (by first | decide | omega), ?_⟩
              | refine ⟨NzB.mk (by first | decide | omega), ?_⟩
              | refine ⟨by decide, MkB.mk (by omega) (by omega) (by omega) (by omega), ?_⟩
              | refine ⟨trivial, ?_⟩
              | refine ⟨by decide, rfl, by decide, ?_⟩
              | refine .inr ⟨by decide, _, _, _, _, _, rfl, rfl, Fits.mk (by first | exact Nat.le_of_ble_eq_true rfl | omega), ?_⟩
              | refine .inr ⟨by decide, by decide, Room.mk (by decide) (by decide), ?_⟩
              | refine .inr ⟨by decide, _, _, _, _, _, rfl, rfl, Room.mk (by omega) (by omega), .inr (.inr ⟨(by omega), rfl, rfl, rfl, (by first | omega | (simp; done) | (simp; omega)), (by omega), rfl, ?_⟩)⟩
              | refine ⟨by decide, ?_⟩
              | refine ⟨subHi_le _ _ _, ?_⟩
              | refine ⟨_, rfl, ?_⟩
              | fail
            all_goals first
              | rfl
              | exact congrArg Value.bool (decide_eq_true (congrArg Prod.snd (two_sums (us := us) (c := (us.length)) (by first | assumption | rfl) (by first | assumption | rfl))))
              | (have t := two_sums (us := us) (c := (us.length)) (by first | assumption | rfl) (by first | assumption | rfl); rw [t] at h; simp at h; done)
        ·
          repeat' first
            | refine brP.tD (by omega) ?_
            | refine brP.fD (by omega) ?_
            | refine brP.tN (by omega) ?_
            | refine brP.fN (by omega) ?_
            | (apply Here.norm; (first | dsimp only [Env.putR, argEnv, pure1, newPtr, applyE, hset, List.length_cons, List.length_nil, List.length_append, List.set, List.cons_append, List.nil_append] | rfl); (first | dsimp only [Env.putR, argEnv, pure1, newPtr, applyE, hset, List.length_cons, List.length_nil, List.length_append, List.set, List.cons_append, List.nil_append] | rfl))
            | refine brP.t (by assumption) ?_
            | refine brP.f (by assumption) ?_
            | refine brP.tD (by assumption) ?_
            | refine brP.fD (by assumption) ?_
            | refine brP.tN (by assumption) ?_
            | refine brP.fN (by assumption) ?_
            | refine brP.introD (fun h => ?_) (fun h => ?_)
            | refine brP.introN (fun h => ?_) (fun h => ?_)
            | refine brP.intro (fun h => ?_) (fun h => ?_)
            | refine ⟨_, _, _, _, _, rfl, rfl, rfl, Fits.mk (by first | exact Nat.le_of_ble_eq_true rfl | (dsimp only; omega)), rfl, ?_⟩
            | refine ⟨_, _, _, _, _, rfl, _, rfl, ?_⟩
            | refine ⟨_, _, _, _, _, rfl, Fits.mk (by first | exact Nat.le_of_ble_eq_true rfl | (dsimp only; omega)), _, rfl, ?_⟩
            | refine ⟨Fits.mk (by first | exact Nat.le_of_ble_eq_true rfl | (dsimp only; omega)), _, rfl, ?_⟩
            | refine draw_go (C_ok W0) (by kernel_rfl) ?_
            | refine ⟨cpt_ok (by kernel_rfl), ?_⟩
            | refine ⟨InB.mk (by first | decide | omega) (by first | decide | omega), ?_⟩
            | refine ⟨SlB.mk (by first | omega | decide) (by first | omega | decide) (by first | omega | decide), ?_⟩
            | refine ⟨ShB.mk (by first | decide | omega), ?_⟩
            | refine ⟨NzB.mk (by first | decide | omega), ?_⟩
            | refine ⟨by decide, MkB.mk (by omega) (by omega) (by omega) (by omega), ?_⟩
            | refine ⟨trivial, ?_⟩
            | refine ⟨by decide, rfl, by decide, ?_⟩
            | refine .inr ⟨by decide, _, _, _, _, _, rfl, rfl, Fits.mk (by first | exact Nat.le_of_ble_eq_true rfl | omega), ?_⟩
            | refine .inr ⟨by decide, by decide, Room.mk (by decide) (by decide), ?_⟩
            | refine .inr ⟨by decide, _, _, _, _, _, rfl, rfl, Room.mk (by omega) (by omega), .inr (.inr ⟨(by omega), rfl, rfl, rfl, (by first | omega | (simp; done) | (simp; omega)), (by omega), rfl, ?_⟩)⟩
            | refine ⟨by decide, ?_⟩
            | refine ⟨subHi_le _ _ _, ?_⟩
            | refine ⟨_, rfl, ?_⟩
            | fail
          rw [ce]
          have hT := sl_T us ((c : Int)) (c) rfl (by omega)
          have hD := sl_D us ((c : Int)) (c) rfl (by omega)
          have xT : ((c : Int) : Int).toNat * 2 ≤ (wcells us).length := by rw [lw]; omega
          have xD : (us.length : Int).toNat * 2 ≤ (wcells us).length := by rw [lw]; omega
          have lD : (wcells (us.drop (c))).length = ((us.length : Int).toNat - ((c : Int) : Int).toNat) * 2 := by rw [wcells_len, List.length_drop]; omega
          have lT : (wcells (us.take (c))).length = (((c : Int) : Int).toNat - (0 : Int).toNat) * 2 := by rw [wcells_len, List.length_take]; omega
          have h1 : 0 < (us.length : Int).toNat - (c : Int).toNat := by omega
          have h2 : 0 < (c : Int).toNat - (0 : Int).toNat := by omega
          have e1 : ((us.length : Int).toNat - (c : Int).toNat) + ((c : Int).toNat - (0 : Int).toNat) = us.length := by omega
          have lf : 0 + ((us.length : Int).toNat - (c : Int).toNat) * 2 = (wcells (us.drop c)).length := by omega
          repeat' first
            | refine brP.tD (by omega) ?_
            | refine brP.fD (by omega) ?_
            | refine brP.tN (by omega) ?_
            | refine brP.fN (by omega) ?_
            | refine ⟨xD, _, hD, ?_⟩
            | refine ⟨xT, _, hT, ?_⟩
            | refine ⟨lD, ?_⟩
            | refine ⟨lT, ?_⟩
            | refine .inr ⟨h1, by decide, Room.mk (by omega) (by omega), ?_⟩
            | refine .inr ⟨h2, _, _, _, _, _, rfl, rfl, Room.mk (by omega) (by omega), .inr (.inr ⟨(by omega), rfl, rfl, rfl, lf, (by omega), wcells_one _, ?_⟩)⟩
            | (apply Here.norm; (first | dsimp only [Env.putR, argEnv, pure1, newPtr, applyE, hset, List.length_cons, List.length_nil, List.length_append, List.set, List.cons_append, List.nil_append] | rfl); (first | dsimp only [Env.putR, argEnv, pure1, newPtr, applyE, hset, List.length_cons, List.length_nil, List.length_append, List.set, List.cons_append, List.nil_append] | rfl))
            | refine brP.t (by assumption) ?_
            | refine brP.f (by assumption) ?_
            | refine brP.tD (by assumption) ?_
            | refine brP.fD (by assumption) ?_
            | refine brP.tN (by assumption) ?_
            | refine brP.fN (by assumption) ?_
            | refine brP.introD (fun h => ?_) (fun h => ?_)
            | refine brP.introN (fun h => ?_) (fun h => ?_)
            | refine brP.intro (fun h => ?_) (fun h => ?_)
            | refine ⟨_, _, _, _, _, rfl, rfl, rfl, Fits.mk (by first | exact Nat.le_of_ble_eq_true rfl | (dsimp only; omega)), rfl, ?_⟩
            | refine ⟨_, _, _, _, _, rfl, _, rfl, ?_⟩
            | refine ⟨_, _, _, _, _, rfl, Fits.mk (by first | exact Nat.le_of_ble_eq_true rfl | (dsimp only; omega)), _, rfl, ?_⟩
            | refine ⟨Fits.mk (by first | exact Nat.le_of_ble_eq_true rfl | (dsimp only; omega)), _, rfl, ?_⟩
            | refine draw_go (C_ok W0) (by kernel_rfl) ?_
            | refine ⟨cpt_ok (by kernel_rfl), ?_⟩
            | refine ⟨InB.mk (by first | decide | omega) (by first | decide | omega), ?_⟩
            | refine ⟨SlB.mk (by first | omega | decide) (by first | omega | decide) (by first | omega | decide), ?_⟩
            | refine ⟨ShB.mk (by first | decide | omega), ?_⟩
            | refine ⟨NzB.mk (by first | decide | omega), ?_⟩
            | refine ⟨by decide, MkB.mk (by omega) (by omega) (by omega) (by omega), ?_⟩
            | refine ⟨trivial, ?_⟩
            | refine ⟨by decide, rfl, by decide, ?_⟩
            | refine .inr ⟨by decide, _, _, _, _, _, rfl, rfl, Fits.mk (by first | exact Nat.le_of_ble_eq_true rfl | omega), ?_⟩
            | refine .inr ⟨by decide, by decide, Room.mk (by decide) (by decide), ?_⟩
            | refine .inr ⟨by decide, _, _, _, _, _, rfl, rfl, Room.mk (by omega) (by omega), .inr (.inr ⟨(by omega), rfl, rfl, rfl, (by first | omega | (simp; done) | (simp; omega)), (by omega), rfl, ?_⟩)⟩
            | refine ⟨by decide, ?_⟩
            | refine ⟨subHi_le _ _ _, ?_⟩
            | refine ⟨_, rfl, ?_⟩
            | fail
          have sT := wide_SumN (W0 := W0) (us.take (c)) (((c : Int) : Int).toNat - (0 : Int).toNat) (by rw [List.length_take]; omega) (fun v h => hR v (List.mem_of_mem_take h)) (by omega)
          have sD := wide_SumN (W0 := W0) (us.drop (c)) ((us.length : Int).toNat - ((c : Int) : Int).toNat) (by rw [List.length_drop]; omega) (fun v h => hR v (List.mem_of_mem_drop h)) (by omega)
          have ad := wide_Add (W0 := W0) (wenc (us.take (c)).sum).1 (wenc (us.drop (c)).sum).1 (wenc_Rk _) (wenc_Rk _)
          refine loop_I (C_ok W0) (fun p : Nat × List Int => p.1 ≤ us.length ∧ p.2.length = us.length ∧ p.2.sum = us.sum ∧ ∀ v ∈ p.2, R v)
            (fun p => [(0, LV (wcells us) us.length), (6, .pointer (some ⟨0, 0, none⟩)), (7, .int .i64 (wenc us.sum).2), (9, .int .i64 (c : Int)), (10, .slice (some ⟨1, 0, none⟩) us.length us.length), (11, .int .i64 p.1)])
            (fun p => [wb1 us.sum, .cells (wcells p.2) 2 true true Y.api_Wide]) (fun p => us.length - p.1) (0, us.drop c ++ us.take c) ⟨Nat.zero_le _, turn_ok hR⟩ ⟨_, rfl, ?_⟩ ?_
          · dsimp only [List.map]
            refine RT.ren [1, 3] rfl rfl ?_ ?_
            all_goals (repeat' first
              | exact trivial
              | exact LTo.nil
              | refine ⟨⟨_, rfl, ?_, (fun z => by cases z)⟩, ?_⟩
              | refine BTo.cells (fun z => z) ?_
              | refine BTo.cells (fun z => by cases z) ?_
              | exact VTo.ptr (by decide)
              | exact VTo.slice (by decide)
              | exact sliceE (by decide) (by omega)
              | exact VTo.map (by decide)
              | exact VTo.emptyN _
              | refine LTo.cons ?_ ?_
              | refine VTo.int ?_
              | refine VTo.bool ?_
              | refine VTo.string ?_
              | refine VTo.agg ?_
              | refine VTo.tuple ?_
              | exact VTo.same _
              | (with_reducible rfl)
              | exact VTo.n rfl
              | exact LTo.n rfl
              | refine LTo.n ?_
              | refine VTo.n ?_
              )
            all_goals first
              | rfl
              | (exact turn_cells hc)
          rintro ⟨j, ws⟩ ⟨g1, g2, g3, g4⟩
          dsimp only at g1 g2 g3 g4 ⊢
          have lv : (wcells ws).length = us.length * 2 := by rw [wcells_len]; omega
          have q : IntKind.i64.wrap (Int.tdiv (us.length : Int) 2) = ((us.length / 2 : Nat) : Int) := by rw [Int.tdiv_eq_ediv_of_nonneg (by omega), wrap_in (by omega)]; omega
          by_cases gj : j < us.length / 2
          · have wm0 : IntKind.i64.wrap ((us.length : Int) - 1) = ((us.length - 1 : Nat) : Int) := by rw [wrap_in (by omega)]; omega
            have wm : IntKind.i64.wrap (IntKind.i64.wrap ((us.length : Int) - 1) - (j : Int)) = ((us.length - 1 - j : Nat) : Int) := by rw [wm0, wrap_in (by omega)]; omega
            have v1 : ws[j]? = some (ws.getD j 0) := by rw [List.getD_eq_getElem?_getD, List.getElem?_eq_getElem (by omega)]; rfl
            have v2 : ws[us.length - 1 - j]? = some (ws.getD (us.length - 1 - j) 0) := by rw [List.getD_eq_getElem?_getD, List.getElem?_eq_getElem (by omega)]; rfl
            have e1 : ((wcells ws).drop (0 + (IntKind.i64.wrap (IntKind.i64.wrap ((us.length : Int) - 1) - (j : Int))).toNat * 2)).take 2 = [.int .i64 (ws.getD (us.length - 1 - j) 0 / 18446744073709551616), .int .u64 (ws.getD (us.length - 1 - j) 0 % 18446744073709551616)] := by rw [wm, Nat.zero_add]; exact wcells_at ws _ _ v2
            have e2 : ((wcells ws).drop (0 + ((j : Int).toNat) * 2)).take 2 = [.int .i64 (ws.getD j 0 / 18446744073709551616), .int .u64 (ws.getD j 0 % 18446744073709551616)] := by rw [Nat.zero_add]; exact wcells_at ws _ _ v1
            have f1 : 0 + (IntKind.i64.wrap (IntKind.i64.wrap ((us.length : Int) - 1) - (j : Int))).toNat * 2 + 2 ≤ (wcells ws).length := by rw [wm, lv]; omega
            have f2 : 0 + ((j : Int).toNat) * 2 + 2 ≤ (wcells ws).length := by rw [lv]; omega
            have f3 := swap_fit (us := us) (ws := ws) (j := j) g2 gj
            rw [← wm] at f3
            have ok := swap_ok (us := us) (ws := ws) (j := j) g2 g3 g4 gj
            have sc := swap_cells (us := us) (ws := ws) (j := j) g2 gj
            rw [← wm] at sc
            repeat' first
              | refine brP.tD (by omega) ?_
              | refine brP.fD (by omega) ?_
              | refine brP.tN (by omega) ?_
              | refine brP.fN (by omega) ?_
              | refine ⟨_, _, _, _, _, rfl, Fits.mk f1, _, e1, ?_⟩
              | refine ⟨_, _, _, _, _, rfl, Fits.mk f2, _, e2, ?_⟩
              | refine ⟨_, _, _, _, _, rfl, rfl, rfl, Fits.mk f2, rfl, ?_⟩
              | refine ⟨_, _, _, _, _, rfl, rfl, rfl, Fits.mk f3, rfl, ?_⟩
              | (apply Here.norm; (first | dsimp only [Env.putR, argEnv, pure1, newPtr, applyE, hset, List.length_cons, List.length_nil, List.length_append, List.set, List.cons_append, List.nil_append] | rfl); (first | dsimp only [Env.putR, argEnv, pure1, newPtr, applyE, hset, List.length_cons, List.length_nil, List.length_append, List.set, List.cons_append, List.nil_append] | rfl))
              | refine brP.t (by assumption) ?_
              | refine brP.f (by assumption) ?_
              | refine brP.tD (by assumption) ?_
              | refine brP.fD (by assumption) ?_
              | refine brP.tN (by assumption) ?_
              | refine brP.fN (by assumption) ?_
              | refine brP.introD (fun h => ?_) (fun h => ?_)
              | refine brP.introN (fun h => ?_) (fun h => ?_)
              | refine brP.intro (fun h => ?_) (fun h => ?_)
              | refine ⟨_, _, _, _, _, rfl, rfl, rfl, Fits.mk (by first | exact Nat.le_of_ble_eq_true rfl | (dsimp only; omega)), rfl, ?_⟩
              | refine ⟨_, _, _, _, _, rfl, _, rfl, ?_⟩
              | refine ⟨_, _, _, _, _, rfl, Fits.mk (by first | exact Nat.le_of_ble_eq_true rfl | (dsimp only; omega)), _, rfl, ?_⟩
              | refine ⟨Fits.mk (by first | exact Nat.le_of_ble_eq_true rfl | (dsimp only; omega)), _, rfl, ?_⟩
              | refine draw_go (C_ok W0) (by kernel_rfl) ?_
              | refine ⟨cpt_ok (by kernel_rfl), ?_⟩
              | refine ⟨InB.mk (by first | decide | omega) (by first | decide | omega), ?_⟩
              | refine ⟨SlB.mk (by first | omega | decide) (by first | omega | decide) (by first | omega | decide), ?_⟩
              | refine ⟨ShB.mk (by first | decide | omega), ?_⟩
              | refine ⟨NzB.mk (by first | decide | omega), ?_⟩
              | refine ⟨by decide, MkB.mk (by omega) (by omega) (by omega) (by omega), ?_⟩
              | refine ⟨trivial, ?_⟩
              | refine ⟨by decide, rfl, by decide, ?_⟩
              | refine .inr ⟨by decide, _, _, _, _, _, rfl, rfl, Fits.mk (by first | exact Nat.le_of_ble_eq_true rfl | omega), ?_⟩
              | refine .inr ⟨by decide, by decide, Room.mk (by decide) (by decide), ?_⟩
              | refine .inr ⟨by decide, _, _, _, _, _, rfl, rfl, Room.mk (by omega) (by omega), .inr (.inr ⟨(by omega), rfl, rfl, rfl, (by first | omega | (simp; done) | (simp; omega)), (by omega), rfl, ?_⟩)⟩
              | refine ⟨by decide, ?_⟩
              | refine ⟨subHi_le _ _ _, ?_⟩
              | refine ⟨_, rfl, ?_⟩
              | fail
            apply Again.mk (j + 1, (ws.set j (ws.getD (us.length - 1 - j) 0)).set (us.length - 1 - j) (ws.getD j 0))
            · exact ⟨by dsimp only; omega, ok.1, ok.2.1, ok.2.2⟩
            · dsimp only; omega
            refine ⟨_, rfl, ?_⟩
            refine RT.ren [0, 1] rfl rfl ?_ ?_
            all_goals (repeat' first
              | exact trivial
              | exact LTo.nil
              | refine ⟨⟨_, rfl, ?_, (fun z => by cases z)⟩, ?_⟩
              | refine BTo.cells (fun z => z) ?_
              | refine BTo.cells (fun z => by cases z) ?_
              | exact VTo.ptr (by decide)
              | exact VTo.slice (by decide)
              | exact sliceE (by decide) (by omega)
              | exact VTo.map (by decide)
              | exact VTo.emptyN _
              | refine LTo.cons ?_ ?_
              | refine VTo.int ?_
              | refine VTo.bool ?_
              | refine VTo.string ?_
              | refine VTo.agg ?_
              | refine VTo.tuple ?_
              | exact VTo.same _
              | (with_reducible rfl)
              | exact VTo.n rfl
              | exact LTo.n rfl
              | refine LTo.n ?_
              | refine VTo.n ?_
              )
            · exact sc
            · rw [wrap_in (by omega)]; omega
          · have so2 := sum_own (W0 := W0) ws us.length g2 g4 hn 1 us.length true Y.api_Wide
            rw [g3] at so2
            repeat' first
              | refine brP.tD (by omega) ?_
              | refine brP.fD (by omega) ?_
              | refine brP.tN (by omega) ?_
              | refine brP.fN (by omega) ?_
              | refine (so2 _).call (by first | exact trivial | exact ⟨rfl, trivial⟩ | exact ⟨rfl, rfl, trivial⟩) ?_
              | refine .inr ⟨_, so2 _, (by first | exact trivial | exact ⟨rfl, trivial⟩ | exact ⟨rfl, rfl, trivial⟩), ?_⟩
              | refine brP.f (ne_same2 _ _) ?_
              | refine brP.f (ne_same _) ?_
              | refine ⟨xD, _, hD, ?_⟩
              | refine ⟨xT, _, hT, ?_⟩
              | refine (sT).call ?_
              | refine .inl ⟨_, sT, ?_⟩
              | refine (sD).call ?_
              | refine .inl ⟨_, sD, ?_⟩
              | refine (ad).call ?_
              | refine .inl ⟨_, ad, ?_⟩
              | (apply Here.norm; (first | dsimp only [Env.putR, argEnv, pure1, newPtr, applyE, hset, List.length_cons, List.length_nil, List.length_append, List.set, List.cons_append, List.nil_append] | rfl); (first | dsimp only [Env.putR, argEnv, pure1, newPtr, applyE, hset, List.length_cons, List.length_nil, List.length_append, List.set, List.cons_append, List.nil_append] | rfl))
              | refine brP.t (by assumption) ?_
              | refine brP.f (by assumption) ?_
              | refine brP.tD (by assumption) ?_
              | refine brP.fD (by assumption) ?_
              | refine brP.tN (by assumption) ?_
              | refine brP.fN (by assumption) ?_
              | refine brP.introD (fun h => ?_) (fun h => ?_)
              | refine brP.introN (fun h => ?_) (fun h => ?_)
              | refine brP.intro (fun h => ?_) (fun h => ?_)
              | refine ⟨_, _, _, _, _, rfl, rfl, rfl, Fits.mk (by first | exact Nat.le_of_ble_eq_true rfl | (dsimp only; omega)), rfl, ?_⟩
              | refine ⟨_, _, _, _, _, rfl, _, rfl, ?_⟩
              | refine ⟨_, _, _, _, _, rfl, Fits.mk (by first | exact Nat.le_of_ble_eq_true rfl | (dsimp only; omega)), _, rfl, ?_⟩
              | refine ⟨Fits.mk (by first | exact Nat.le_of_ble_eq_true rfl | (dsimp only; omega)), _, rfl, ?_⟩
              | refine draw_go (C_ok W0) (by kernel_rfl) ?_
              | refine ⟨cpt_ok (by kernel_rfl), ?_⟩
              | refine ⟨InB.mk (by first | decide | omega) (by first | decide | omega), ?_⟩
              | refine ⟨SlB.mk (by first | omega | decide) (by first | omega | decide) (by first | omega | decide), ?_⟩
              | refine ⟨ShB.mk (by first | decide | omega), ?_⟩
              | refine ⟨NzB.mk (by first | decide | omega), ?_⟩
              | refine ⟨by decide, MkB.mk (by omega) (by omega) (by omega) (by omega), ?_⟩
              | refine ⟨trivial, ?_⟩
              | refine ⟨by decide, rfl, by decide, ?_⟩
              | refine .inr ⟨by decide, _, _, _, _, _, rfl, rfl, Fits.mk (by first | exact Nat.le_of_ble_eq_true rfl | omega), ?_⟩
              | refine .inr ⟨by decide, by decide, Room.mk (by decide) (by decide), ?_⟩
              | refine .inr ⟨by decide, _, _, _, _, _, rfl, rfl, Room.mk (by omega) (by omega), .inr (.inr ⟨(by omega), rfl, rfl, rfl, (by first | omega | (simp; done) | (simp; omega)), (by omega), rfl, ?_⟩)⟩
              | refine ⟨by decide, ?_⟩
              | refine ⟨subHi_le _ _ _, ?_⟩
              | refine ⟨_, rfl, ?_⟩
              | fail
            all_goals first
              | rfl
              | exact congrArg Value.bool (decide_eq_true (congrArg Prod.snd (two_sums (us := us) (c := (c)) (by first | assumption | rfl) (by first | assumption | rfl))))
              | (have t := two_sums (us := us) (c := (c)) (by first | assumption | rfl) (by first | assumption | rfl); rw [t] at h; simp at h; done)
    ·
      have hT := sl_T us ((0 : Int)) (0) rfl (by omega)
      have hD := sl_D us ((0 : Int)) (0) rfl (by omega)
      have xT : ((0 : Int) : Int).toNat * 2 ≤ (wcells us).length := by rw [lw]; omega
      have xD : (us.length : Int).toNat * 2 ≤ (wcells us).length := by rw [lw]; omega
      have lD : (wcells (us.drop (0))).length = ((us.length : Int).toNat - ((0 : Int) : Int).toNat) * 2 := by rw [wcells_len, List.length_drop]; omega
      have lT : (wcells (us.take (0))).length = (((0 : Int) : Int).toNat - (0 : Int).toNat) * 2 := by rw [wcells_len, List.length_take]; omega
      have h1 : 0 < (us.length : Int).toNat - (0 : Int).toNat := by omega
      repeat' first
        | refine brP.tD (by omega) ?_
        | refine brP.fD (by omega) ?_
        | refine brP.tN (by omega) ?_
        | refine brP.fN (by omega) ?_
        | refine ⟨xD, _, hD, ?_⟩
        | refine ⟨xT, _, hT, ?_⟩
        | refine ⟨lD, ?_⟩
        | refine ⟨lT, ?_⟩
        | refine .inr ⟨h1, by decide, Room.mk (by omega) (by omega), ?_⟩
        | refine .inl ⟨(rfl : (0 : Nat) = 0), ?_⟩
        | (apply Here.norm; (first | dsimp only [Env.putR, argEnv, pure1, newPtr, applyE, hset, List.length_cons, List.length_nil, List.length_append, List.set, List.cons_append, List.nil_append] | rfl); (first | dsimp only [Env.putR, argEnv, pure1, newPtr, applyE, hset, List.length_cons, List.length_nil, List.length_append, List.set, List.cons_append, List.nil_append] | rfl))
        | refine brP.t (by assumption) ?_
        | refine brP.f (by assumption) ?_
        | refine brP.tD (by assumption) ?_
        | refine brP.fD (by assumption) ?_
        | refine brP.tN (by assumption) ?_
        | refine brP.fN (by assumption) ?_
        | refine brP.introD (fun h => ?_) (fun h => ?_)
        | refine brP.introN (fun h => ?_) (fun h => ?_)
        | refine brP.intro (fun h => ?_) (fun h => ?_)
        | refine ⟨_, _, _, _, _, rfl, rfl, rfl, Fits.mk (by first | exact Nat.le_of_ble_eq_true rfl | (dsimp only; omega)), rfl, ?_⟩
        | refine ⟨_, _, _, _, _, rfl, _, rfl, ?_⟩
        | refine ⟨_, _, _, _, _, rfl, Fits.mk (by first | exact Nat.le_of_ble_eq_true rfl | (dsimp only; omega)), _, rfl, ?_⟩
        | refine ⟨Fits.mk (by first | exact Nat.le_of_ble_eq_true rfl | (dsimp only; omega)), _, rfl, ?_⟩
        | refine draw_go (C_ok W0) (by kernel_rfl) ?_
        | refine ⟨cpt_ok (by kernel_rfl), ?_⟩
        | refine ⟨InB.mk (by first | decide | omega) (by first | decide | omega), ?_⟩
        | refine ⟨SlB.mk (by first | omega | decide) (by first | omega | decide) (by first | omega | decide), ?_⟩
        | refine ⟨ShB.mk (by first | decide | omega), ?_⟩
        | refine ⟨NzB.mk (by first | decide | omega), ?_⟩
        | refine ⟨by decide, MkB.mk (by omega) (by omega) (by omega) (by omega), ?_⟩
        | refine ⟨trivial, ?_⟩
        | refine ⟨by decide, rfl, by decide, ?_⟩
        | refine .inr ⟨by decide, _, _, _, _, _, rfl, rfl, Fits.mk (by first | exact Nat.le_of_ble_eq_true rfl | omega), ?_⟩
        | refine .inr ⟨by decide, by decide, Room.mk (by decide) (by decide), ?_⟩
        | refine .inr ⟨by decide, _, _, _, _, _, rfl, rfl, Room.mk (by omega) (by omega), .inr (.inr ⟨(by omega), rfl, rfl, rfl, (by first | omega | (simp; done) | (simp; omega)), (by omega), rfl, ?_⟩)⟩
        | refine ⟨by decide, ?_⟩
        | refine ⟨subHi_le _ _ _, ?_⟩
        | refine ⟨_, rfl, ?_⟩
        | fail
      have sT := wide_SumN (W0 := W0) (us.take (0)) (((0 : Int) : Int).toNat - (0 : Int).toNat) (by rw [List.length_take]; omega) (fun v h => hR v (List.mem_of_mem_take h)) (by omega)
      have sD := wide_SumN (W0 := W0) (us.drop (0)) ((us.length : Int).toNat - ((0 : Int) : Int).toNat) (by rw [List.length_drop]; omega) (fun v h => hR v (List.mem_of_mem_drop h)) (by omega)
      have ad := wide_Add (W0 := W0) (wenc (us.take (0)).sum).1 (wenc (us.drop (0)).sum).1 (wenc_Rk _) (wenc_Rk _)
      refine loop_I (C_ok W0) (fun p : Nat × List Int => p.1 ≤ us.length ∧ p.2.length = us.length ∧ p.2.sum = us.sum ∧ ∀ v ∈ p.2, R v)
        (fun p => [(0, LV (wcells us) us.length), (6, .pointer (some ⟨0, 0, none⟩)), (7, .int .i64 (wenc us.sum).2), (9, .int .i64 (0 : Int)), (10, .slice (some ⟨1, 0, none⟩) us.length us.length), (11, .int .i64 p.1)])
        (fun p => [wb1 us.sum, .cells (wcells p.2) 2 true true Y.api_Wide]) (fun p => us.length - p.1) (0, us.drop 0) ⟨Nat.zero_le _, rfl, rfl, hR⟩ ⟨_, rfl, ?_⟩ ?_
      · dsimp only [List.map]
        refine RT.ren [1, 2] rfl rfl ?_ ?_
        all_goals (repeat' first
          | exact trivial
          | exact LTo.nil
          | refine ⟨⟨_, rfl, ?_, (fun z => by cases z)⟩, ?_⟩
          | refine BTo.cells (fun z => z) ?_
          | refine BTo.cells (fun z => by cases z) ?_
          | exact VTo.ptr (by decide)
          | exact VTo.slice (by decide)
          | exact sliceE (by decide) (by omega)
          | exact VTo.map (by decide)
          | exact VTo.emptyN _
          | refine LTo.cons ?_ ?_
          | refine VTo.int ?_
          | refine VTo.bool ?_
          | refine VTo.string ?_
          | refine VTo.agg ?_
          | refine VTo.tuple ?_
          | exact VTo.same _
          | (with_reducible rfl)
          | exact VTo.n rfl
          | exact LTo.n rfl
          | refine LTo.n ?_
          | refine VTo.n ?_
          )
        all_goals first
          | rfl
          | (rfl)
      rintro ⟨j, ws⟩ ⟨g1, g2, g3, g4⟩
      dsimp only at g1 g2 g3 g4 ⊢
      have lv : (wcells ws).length = us.length * 2 := by rw [wcells_len]; omega
      have q : IntKind.i64.wrap (Int.tdiv (us.length : Int) 2) = ((us.length / 2 : Nat) : Int) := by rw [Int.tdiv_eq_ediv_of_nonneg (by omega), wrap_in (by omega)]; omega
      by_cases gj : j < us.length / 2
      · have wm0 : IntKind.i64.wrap ((us.length : Int) - 1) = ((us.length - 1 : Nat) : Int) := by rw [wrap_in (by omega)]; omega
        have wm : IntKind.i64.wrap (IntKind.i64.wrap ((us.length : Int) - 1) - (j : Int)) = ((us.length - 1 - j : Nat) : Int) := by rw [wm0, wrap_in (by omega)]; omega
        have v1 : ws[j]? = some (ws.getD j 0) := by rw [List.getD_eq_getElem?_getD, List.getElem?_eq_getElem (by omega)]; rfl
        have v2 : ws[us.length - 1 - j]? = some (ws.getD (us.length - 1 - j) 0) := by rw [List.getD_eq_getElem?_getD, List.getElem?_eq_getElem (by omega)]; rfl
        have e1 : ((wcells ws).drop (0 + (IntKind.i64.wrap (IntKind.i64.wrap ((us.length : Int) - 1) - (j : Int))).toNat * 2)).take 2 = [.int .i64 (ws.getD (us.length - 1 - j) 0 / 18446744073709551616), .int .u64 (ws.getD (us.length - 1 - j) 0 % 18446744073709551616)] := by rw [wm, Nat.zero_add]; exact wcells_at ws _ _ v2
        have e2 : ((wcells ws).drop (0 + ((j : Int).toNat) * 2)).take 2 = [.int .i64 (ws.getD j 0 / 18446744073709551616), .int .u64 (ws.getD j 0 % 18446744073709551616)] := by rw [Nat.zero_add]; exact wcells_at ws _ _ v1
        have f1 : 0 + (IntKind.i64.wrap (IntKind.i64.wrap ((us.length : Int) - 1) - (j : Int))).toNat * 2 + 2 ≤ (wcells ws).length := by rw [wm, lv]; omega
        have f2 : 0 + ((j : Int).toNat) * 2 + 2 ≤ (wcells ws).length := by rw [lv]; omega
        have f3 := swap_fit (us := us) (ws := ws) (j := j) g2 gj
        rw [← wm] at f3
        have ok := swap_ok (us := us) (ws := ws) (j := j) g2 g3 g4 gj
        have sc := swap_cells (us := us) (ws := ws) (j := j) g2 gj
        rw [← wm] at sc
        repeat' first
          | refine brP.tD (by omega) ?_
          | refine brP.fD (by omega) ?_
          | refine brP.tN (by omega) ?_
          | refine brP.fN (by omega) ?_
          | refine ⟨_, _, _, _, _, rfl, Fits.mk f1, _, e1, ?_⟩
          | refine ⟨_, _, _, _, _, rfl, Fits.mk f2, _, e2, ?_⟩
          | refine ⟨_, _, _, _, _, rfl, rfl, rfl, Fits.mk f2, rfl, ?_⟩
          | refine ⟨_, _, _, _, _, rfl, rfl, rfl, Fits.mk f3, rfl, ?_⟩
          | (apply Here.norm; (first | dsimp only [Env.putR, argEnv, pure1, newPtr, applyE, hset, List.length_cons, List.length_nil, List.length_append, List.set, List.cons_append, List.nil_append] | rfl); (first | dsimp only [Env.putR, argEnv, pure1, newPtr, applyE, hset, List.length_cons, List.length_nil, List.length_append, List.set, List.cons_append, List.nil_append] | rfl))
          | refine brP.t (by assumption) ?_
          | refine brP.f (by assumption) ?_
          | refine brP.tD (by assumption) ?_
          | refine brP.fD (by assumption) ?_
          | refine brP.tN (by assumption) ?_
          | refine brP.fN (by assumption) ?_
          | refine brP.introD (fun h => ?_) (fun h => ?_)
          | refine brP.introN (fun h => ?_) (fun h => ?_)
          | refine brP.intro (fun h => ?_) (fun h => ?_)
          | refine ⟨_, _, _, _, _, rfl, rfl, rfl, Fits.mk (by first | exact Nat.le_of_ble_eq_true rfl | (dsimp only; omega)), rfl, ?_⟩
          | refine ⟨_, _, _, _, _, rfl, _, rfl, ?_⟩
          | refine ⟨_, _, _, _, _, rfl, Fits.mk (by first | exact Nat.le_of_ble_eq_true rfl | (dsimp only; omega)), _, rfl, ?_⟩
          | refine ⟨Fits.mk (by first | exact Nat.le_of_ble_eq_true rfl | (dsimp only; omega)), _, rfl, ?_⟩
          | refine draw_go (C_ok W0) (by kernel_rfl) ?_
          | refine ⟨cpt_ok (by kernel_rfl), ?_⟩
          | refine ⟨InB.mk (by first | decide | omega) (by first | decide | omega), ?_⟩
          | refine ⟨SlB.mk (by first | omega | decide) (by first | omega | decide) (by first | omega | decide), ?_⟩
          | refine ⟨ShB.mk (by first | decide | omega), ?_⟩
          | refine ⟨NzB.mk (by first | decide | omega), ?_⟩
          | refine ⟨by decide, MkB.mk (by omega) (by omega) (by omega) (by omega), ?_⟩
          | refine ⟨trivial, ?_⟩
          | refine ⟨by decide, rfl, by decide, ?_⟩
          | refine .inr ⟨by decide, _, _, _, _, _, rfl, rfl, Fits.mk (by first | exact Nat.le_of_ble_eq_true rfl | omega), ?_⟩
          | refine .inr ⟨by decide, by decide, Room.mk (by decide) (by decide), ?_⟩
          | refine .inr ⟨by decide, _, _, _, _, _, rfl, rfl, Room.mk (by omega) (by omega), .inr (.inr ⟨(by omega), rfl, rfl, rfl, (by first | omega | (simp; done) | (simp; omega)), (by omega), rfl, ?_⟩)⟩
          | refine ⟨by decide, ?_⟩
          | refine ⟨subHi_le _ _ _, ?_⟩
          | refine ⟨_, rfl, ?_⟩
          | fail
        apply Again.mk (j + 1, (ws.set j (ws.getD (us.length - 1 - j) 0)).set (us.length - 1 - j) (ws.getD j 0))
        · exact ⟨by dsimp only; omega, ok.1, ok.2.1, ok.2.2⟩
        · dsimp only; omega
        refine ⟨_, rfl, ?_⟩
        refine RT.ren [0, 1] rfl rfl ?_ ?_
        all_goals (repeat' first
          | exact trivial
          | exact LTo.nil
          | refine ⟨⟨_, rfl, ?_, (fun z => by cases z)⟩, ?_⟩
          | refine BTo.cells (fun z => z) ?_
          | refine BTo.cells (fun z => by cases z) ?_
          | exact VTo.ptr (by decide)
          | exact VTo.slice (by decide)
          | exact sliceE (by decide) (by omega)
          | exact VTo.map (by decide)
          | exact VTo.emptyN _
          | refine LTo.cons ?_ ?_
          | refine VTo.int ?_
          | refine VTo.bool ?_
          | refine VTo.string ?_
          | refine VTo.agg ?_
          | refine VTo.tuple ?_
          | exact VTo.same _
          | (with_reducible rfl)
          | exact VTo.n rfl
          | exact LTo.n rfl
          | refine LTo.n ?_
          | refine VTo.n ?_
          )
        · exact sc
        · rw [wrap_in (by omega)]; omega
      · have so2 := sum_own (W0 := W0) ws us.length g2 g4 hn 1 us.length true Y.api_Wide
        rw [g3] at so2
        repeat' first
          | refine brP.tD (by omega) ?_
          | refine brP.fD (by omega) ?_
          | refine brP.tN (by omega) ?_
          | refine brP.fN (by omega) ?_
          | refine (so2 _).call (by first | exact trivial | exact ⟨rfl, trivial⟩ | exact ⟨rfl, rfl, trivial⟩) ?_
          | refine .inr ⟨_, so2 _, (by first | exact trivial | exact ⟨rfl, trivial⟩ | exact ⟨rfl, rfl, trivial⟩), ?_⟩
          | refine brP.f (ne_same2 _ _) ?_
          | refine brP.f (ne_same _) ?_
          | refine ⟨xD, _, hD, ?_⟩
          | refine ⟨xT, _, hT, ?_⟩
          | refine (sT).call ?_
          | refine .inl ⟨_, sT, ?_⟩
          | refine (sD).call ?_
          | refine .inl ⟨_, sD, ?_⟩
          | refine (ad).call ?_
          | refine .inl ⟨_, ad, ?_⟩
          | (apply Here.norm; (first | dsimp only [Env.putR, argEnv, pure1, newPtr, applyE, hset, List.length_cons, List.length_nil, List.length_append, List.set, List.cons_append, List.nil_append] | rfl); (first | dsimp only [Env.putR, argEnv, pure1, newPtr, applyE, hset, List.length_cons, List.length_nil, List.length_append, List.set, List.cons_append, List.nil_append] | rfl))
          | refine brP.t (by assumption) ?_
          | refine brP.f (by assumption) ?_
          | refine brP.tD (by assumption) ?_
          | refine brP.fD (by assumption) ?_
          | refine brP.tN (by assumption) ?_
          | refine brP.fN (by assumption) ?_
          | refine brP.introD (fun h => ?_) (fun h => ?_)
          | refine brP.introN (fun h => ?_) (fun h => ?_)
          | refine brP.intro (fun h => ?_) (fun h => ?_)
          | refine ⟨_, _, _, _, _, rfl, rfl, rfl, Fits.mk (by first | exact Nat.le_of_ble_eq_true rfl | (dsimp only; omega)), rfl, ?_⟩
          | refine ⟨_, _, _, _, _, rfl, _, rfl, ?_⟩
          | refine ⟨_, _, _, _, _, rfl, Fits.mk (by first | exact Nat.le_of_ble_eq_true rfl | (dsimp only; omega)), _, rfl, ?_⟩
          | refine ⟨Fits.mk (by first | exact Nat.le_of_ble_eq_true rfl | (dsimp only; omega)), _, rfl, ?_⟩
          | refine draw_go (C_ok W0) (by kernel_rfl) ?_
          | refine ⟨cpt_ok (by kernel_rfl), ?_⟩
          | refine ⟨InB.mk (by first | decide | omega) (by first | decide | omega), ?_⟩
          | refine ⟨SlB.mk (by first | omega | decide) (by first | omega | decide) (by first | omega | decide), ?_⟩
          | refine ⟨ShB.mk (by first | decide | omega), ?_⟩
          | refine ⟨NzB.mk (by first | decide | omega), ?_⟩
          | refine ⟨by decide, MkB.mk (by omega) (by omega) (by omega) (by omega), ?_⟩
          | refine ⟨trivial, ?_⟩
          | refine ⟨by decide, rfl, by decide, ?_⟩
          | refine .inr ⟨by decide, _, _, _, _, _, rfl, rfl, Fits.mk (by first | exact Nat.le_of_ble_eq_true rfl | omega), ?_⟩
          | refine .inr ⟨by decide, by decide, Room.mk (by decide) (by decide), ?_⟩
          | refine .inr ⟨by decide, _, _, _, _, _, rfl, rfl, Room.mk (by omega) (by omega), .inr (.inr ⟨(by omega), rfl, rfl, rfl, (by first | omega | (simp; done) | (simp; omega)), (by omega), rfl, ?_⟩)⟩
          | refine ⟨by decide, ?_⟩
          | refine ⟨subHi_le _ _ _, ?_⟩
          | refine ⟨_, rfl, ?_⟩
          | fail
        all_goals first
          | rfl
          | exact congrArg Value.bool (decide_eq_true (congrArg Prod.snd (two_sums (us := us) (c := (0)) (by first | assumption | rfl) (by first | assumption | rfl))))
          | (have t := two_sums (us := us) (c := (0)) (by first | assumption | rfl) (by first | assumption | rfl); rw [t] at h; simp at h; done)
theorem wideShuffles (us : List Int) (k : Int) (hR : ∀ v ∈ us, R v) (hn : us.length ≤ 1048576) : PureF (C W0) I.tumblerlaw01_WideShuffles [LV (wcells us) us.length, .int .i64 k] (.bool true) := by
  cases us with
  | nil => exact shuf0 k
  | cons u r =>
    have cut : ∀ n : Nat, n ≤ 1048576 → CutAt k n (k.tmod ((n : Int) + 1)).toNat := fun n h => by
      have h1 := Int.tmod_lt_of_pos k (show (0 : Int) < (n : Int) + 1 by omega)
      refine ⟨by omega, fun hk => ?_⟩
      have h2 := Int.tmod_nonneg ((n : Int) + 1) (show 0 ≤ k by omega)
      rw [wrap_in (by omega)]; omega
    exact shuf (u :: r) k hR hn (by simp) _ (cut _ hn)
end Go.Proofs.YtcfhmbhlibhlnaaDoor
