-- Printed by this session's own pp.py (wip/tool) out of the translation.
import Derived.Test.YtcfhmbhlibhlnaaDoorPx0
namespace Go.Proofs.YtcfhmbhlibhlnaaDoor.P
open Go.RowKit Go.Proofs.YtcfhmbhlibhlnaaDoorW.PrintWords Go.Proofs.YtcfhmbhlibhlnaaDoorW.PrintLast Go.Proofs.YtcfhmbhlibhlnaaDoorW.PrintMore Go.Proofs.YtcfhmbhlibhlnaaDoor.Mine
attribute [local go_sem] ext71 ext79 eqA61 eqA62
attribute [local go_sem] max2_int min2_int max_two min_two max_three min_three max_four min_four   -- for this text's walks alone
set_option linter.unusedVariables false
set_option linter.unusedSimpArgs false

/-! ### tumblerref02_Take: function 116 -/
mutual
def tumblerref02_Take.j0 : Nat → ByteArray → Int → Bool → Bool → ByteArray → ByteArray → Option (Bool × ByteArray × ByteArray × Bool)
 | 0, _, _, _, _, _, _ => none
 | k + 1, x0, x5, x15, x1065000, x1065001, x1065002 => if x15 = true then (tumblerref02_Take.j1 k x0 1 true x1065001 x1065002) else (tumblerref02_Take.j1 k x0 x5 x1065000 x1065001 x1065002)
def tumblerref02_Take.j1 : Nat → ByteArray → Int → Bool → ByteArray → ByteArray → Option (Bool × ByteArray × ByteArray × Bool)
 | 0, _, _, _, _, _ => none
 | k + 1, x0, x5, x1065000, x1065001, x1065002 => tumblerref02_Take.l0 k x0 x5 x5 x1065000 x1065001 x1065002
def tumblerref02_Take.j3 : Nat → ByteArray → Int → Int → Bool → ByteArray → ByteArray → Option (Bool × ByteArray × ByteArray × Bool)
 | 0, _, _, _, _, _, _ => none
 | k + 1, x0, x5, x6, x1065000, x1065001, x1065002 => if 0 ≤ x6 then (if x6 ≤ x5 then (if x5 ≤ (x0.size : Int) then (if x5 = x6 then (some (x1065000, x0.extract (x6 : Int).toNat (x5 : Int).toNat, x1065002, false)) else (if x5 = (x0.size : Int) then (some (x1065000, x0.extract (x6 : Int).toNat (x5 : Int).toNat, x1065002, true)) else (if 0 ≤ x5 then (if x5 < (x0.size : Int) then (if (bt x0 x5) = 46 then (tumblerref02_Take.l1 k x0 (wrap64 (x5 + 1)) (wrap64 (x5 + 1)) x1065000 (x0.extract (x6 : Int).toNat (x5 : Int).toNat) x1065002) else (some (x1065000, x0.extract (x6 : Int).toNat (x5 : Int).toNat, x1065002, false))) else (none)) else (none)))) else (none)) else (none)) else (none)
def tumblerref02_Take.l1 : Nat → ByteArray → Int → Int → Bool → ByteArray → ByteArray → Option (Bool × ByteArray × ByteArray × Bool)
 | 0, _, _, _, _, _, _ => none
 | k + 1, x0, x5, x6, x1065000, x1065001, x1065002 => if x5 < (x0.size : Int) then (if 0 ≤ x5 then (if (bt x0 x5) ≥ 48 then (if (bt x0 x5) ≤ 57 then (tumblerref02_Take.l1 k x0 (wrap64 (x5 + 1)) x6 x1065000 x1065001 x1065002) else (if 0 ≤ x6 then (if x6 ≤ x5 then (if x5 ≤ (x0.size : Int) then (if x5 = (x0.size : Int) then (some (x1065000, x1065001, x0.extract (x6 : Int).toNat (x5 : Int).toNat, decide (x5 > x6))) else (some (x1065000, x1065001, x0.extract (x6 : Int).toNat (x5 : Int).toNat, false))) else (none)) else (none)) else (none))) else (if 0 ≤ x6 then (if x6 ≤ x5 then (if x5 ≤ (x0.size : Int) then (if x5 = (x0.size : Int) then (some (x1065000, x1065001, x0.extract (x6 : Int).toNat (x5 : Int).toNat, decide (x5 > x6))) else (some (x1065000, x1065001, x0.extract (x6 : Int).toNat (x5 : Int).toNat, false))) else (none)) else (none)) else (none))) else (none)) else (if 0 ≤ x6 then (if x6 ≤ x5 then (if x5 ≤ (x0.size : Int) then (if x5 = (x0.size : Int) then (some (x1065000, x1065001, x0.extract (x6 : Int).toNat (x5 : Int).toNat, decide (x5 > x6))) else (some (x1065000, x1065001, x0.extract (x6 : Int).toNat (x5 : Int).toNat, false))) else (none)) else (none)) else (none))
def tumblerref02_Take.l0 : Nat → ByteArray → Int → Int → Bool → ByteArray → ByteArray → Option (Bool × ByteArray × ByteArray × Bool)
 | 0, _, _, _, _, _, _ => none
 | k + 1, x0, x5, x6, x1065000, x1065001, x1065002 => if x5 < (x0.size : Int) then (if 0 ≤ x5 then (if (bt x0 x5) ≥ 48 then (if (bt x0 x5) ≤ 57 then (tumblerref02_Take.l0 k x0 (wrap64 (x5 + 1)) x6 x1065000 x1065001 x1065002) else (tumblerref02_Take.j3 k x0 x5 x6 x1065000 x1065001 x1065002)) else (tumblerref02_Take.j3 k x0 x5 x6 x1065000 x1065001 x1065002)) else (none)) else (tumblerref02_Take.j3 k x0 x5 x6 x1065000 x1065001 x1065002)
end
def tumblerref02_Take.f (k : Nat) (a0 : ByteArray) : Option (Bool × ByteArray × ByteArray × Bool) := if (a0.size : Int) > 0 then (if 0 < (a0.size : Int) then (tumblerref02_Take.j0 k a0 0 ((bt a0 0) == 45) false (⟨#[]⟩ : ByteArray) (⟨#[]⟩ : ByteArray)) else (none)) else (tumblerref02_Take.j0 k a0 0 false false (⟨#[]⟩ : ByteArray) (⟨#[]⟩ : ByteArray))
theorem tumblerref02_Take.mono_l : ∀ k, (∀ y0 y1 y2 y3 y4 y5, LeO (tumblerref02_Take.j0 k y0 y1 y2 y3 y4 y5) (tumblerref02_Take.j0 (k + 1) y0 y1 y2 y3 y4 y5)) ∧ (∀ y0 y1 y2 y3 y4, LeO (tumblerref02_Take.j1 k y0 y1 y2 y3 y4) (tumblerref02_Take.j1 (k + 1) y0 y1 y2 y3 y4)) ∧ (∀ y0 y1 y2 y3 y4 y5, LeO (tumblerref02_Take.j3 k y0 y1 y2 y3 y4 y5) (tumblerref02_Take.j3 (k + 1) y0 y1 y2 y3 y4 y5)) ∧ (∀ y0 y1 y2 y3 y4 y5, LeO (tumblerref02_Take.l1 k y0 y1 y2 y3 y4 y5) (tumblerref02_Take.l1 (k + 1) y0 y1 y2 y3 y4 y5)) ∧ (∀ y0 y1 y2 y3 y4 y5, LeO (tumblerref02_Take.l0 k y0 y1 y2 y3 y4 y5) (tumblerref02_Take.l0 (k + 1) y0 y1 y2 y3 y4 y5))
 | 0 => ⟨fun _ _ _ _ _ _ r h => by simp [tumblerref02_Take.j0] at h, fun _ _ _ _ _ r h => by simp [tumblerref02_Take.j1] at h, fun _ _ _ _ _ _ r h => by simp [tumblerref02_Take.j3] at h, fun _ _ _ _ _ _ r h => by simp [tumblerref02_Take.l1] at h, fun _ _ _ _ _ _ r h => by simp [tumblerref02_Take.l0] at h⟩
 | k + 1 => by
  obtain ⟨ih0, ih1, ih2, ih3, ih4⟩ := tumblerref02_Take.mono_l k
  refine ⟨?_, ?_, ?_, ?_, ?_⟩
  · intro y0 y1 y2 y3 y4 y5
    unfold tumblerref02_Take.j0
    repeat' first
    | (with_reducible exact ih0 _ _ _ _ _ _)
    | (with_reducible exact ih1 _ _ _ _ _)
    | (with_reducible exact ih2 _ _ _ _ _ _)
    | (with_reducible exact ih3 _ _ _ _ _ _)
    | (with_reducible exact ih4 _ _ _ _ _ _)
    | (with_reducible exact LeO.refl _)
    | (with_reducible exact LeO.none _)
    | (with_reducible refine LeO.ite ?_ ?_)
    | (with_reducible refine LeO.bind ?_ (fun _ => ?_))
    | exact ih0 _ _ _ _ _ _
    | exact ih1 _ _ _ _ _
    | exact ih2 _ _ _ _ _ _
    | exact ih3 _ _ _ _ _ _
    | exact ih4 _ _ _ _ _ _
    | exact LeO.none _
    | refine LeO.ite ?_ ?_
    | refine LeO.bind ?_ (fun _ => ?_)
  · intro y0 y1 y2 y3 y4
    unfold tumblerref02_Take.j1
    repeat' first
    | (with_reducible exact ih0 _ _ _ _ _ _)
    | (with_reducible exact ih1 _ _ _ _ _)
    | (with_reducible exact ih2 _ _ _ _ _ _)
    | (with_reducible exact ih3 _ _ _ _ _ _)
    | (with_reducible exact ih4 _ _ _ _ _ _)
    | (with_reducible exact LeO.refl _)
    | (with_reducible exact LeO.none _)
    | (with_reducible refine LeO.ite ?_ ?_)
    | (with_reducible refine LeO.bind ?_ (fun _ => ?_))
    | exact ih0 _ _ _ _ _ _
    | exact ih1 _ _ _ _ _
    | exact ih2 _ _ _ _ _ _
    | exact ih3 _ _ _ _ _ _
    | exact ih4 _ _ _ _ _ _
    | exact LeO.none _
    | refine LeO.ite ?_ ?_
    | refine LeO.bind ?_ (fun _ => ?_)
  · intro y0 y1 y2 y3 y4 y5
    unfold tumblerref02_Take.j3
    repeat' first
    | (with_reducible exact ih0 _ _ _ _ _ _)
    | (with_reducible exact ih1 _ _ _ _ _)
    | (with_reducible exact ih2 _ _ _ _ _ _)
    | (with_reducible exact ih3 _ _ _ _ _ _)
    | (with_reducible exact ih4 _ _ _ _ _ _)
    | (with_reducible exact LeO.refl _)
    | (with_reducible exact LeO.none _)
    | (with_reducible refine LeO.ite ?_ ?_)
    | (with_reducible refine LeO.bind ?_ (fun _ => ?_))
    | exact ih0 _ _ _ _ _ _
    | exact ih1 _ _ _ _ _
    | exact ih2 _ _ _ _ _ _
    | exact ih3 _ _ _ _ _ _
    | exact ih4 _ _ _ _ _ _
    | exact LeO.none _
    | refine LeO.ite ?_ ?_
    | refine LeO.bind ?_ (fun _ => ?_)
  · intro y0 y1 y2 y3 y4 y5
    unfold tumblerref02_Take.l1
    repeat' first
    | (with_reducible exact ih0 _ _ _ _ _ _)
    | (with_reducible exact ih1 _ _ _ _ _)
    | (with_reducible exact ih2 _ _ _ _ _ _)
    | (with_reducible exact ih3 _ _ _ _ _ _)
    | (with_reducible exact ih4 _ _ _ _ _ _)
    | (with_reducible exact LeO.refl _)
    | (with_reducible exact LeO.none _)
    | (with_reducible refine LeO.ite ?_ ?_)
    | (with_reducible refine LeO.bind ?_ (fun _ => ?_))
    | exact ih0 _ _ _ _ _ _
    | exact ih1 _ _ _ _ _
    | exact ih2 _ _ _ _ _ _
    | exact ih3 _ _ _ _ _ _
    | exact ih4 _ _ _ _ _ _
    | exact LeO.none _
    | refine LeO.ite ?_ ?_
    | refine LeO.bind ?_ (fun _ => ?_)
  · intro y0 y1 y2 y3 y4 y5
    unfold tumblerref02_Take.l0
    repeat' first
    | (with_reducible exact ih0 _ _ _ _ _ _)
    | (with_reducible exact ih1 _ _ _ _ _)
    | (with_reducible exact ih2 _ _ _ _ _ _)
    | (with_reducible exact ih3 _ _ _ _ _ _)
    | (with_reducible exact ih4 _ _ _ _ _ _)
    | (with_reducible exact LeO.refl _)
    | (with_reducible exact LeO.none _)
    | (with_reducible refine LeO.ite ?_ ?_)
    | (with_reducible refine LeO.bind ?_ (fun _ => ?_))
    | exact ih0 _ _ _ _ _ _
    | exact ih1 _ _ _ _ _
    | exact ih2 _ _ _ _ _ _
    | exact ih3 _ _ _ _ _ _
    | exact ih4 _ _ _ _ _ _
    | exact LeO.none _
    | refine LeO.ite ?_ ?_
    | refine LeO.bind ?_ (fun _ => ?_)
theorem tumblerref02_Take.mono : ∀ a0 k, LeO (tumblerref02_Take.f k a0) (tumblerref02_Take.f (k + 1) a0) := by
 intro a0 k
 obtain ⟨ih0, ih1, ih2, ih3, ih4⟩ := tumblerref02_Take.mono_l k
 unfold tumblerref02_Take.f
 repeat' first
  | (with_reducible exact ih0 _ _ _ _ _ _)
  | (with_reducible exact ih1 _ _ _ _ _)
  | (with_reducible exact ih2 _ _ _ _ _ _)
  | (with_reducible exact ih3 _ _ _ _ _ _)
  | (with_reducible exact ih4 _ _ _ _ _ _)
  | (with_reducible exact LeO.refl _)
  | (with_reducible exact LeO.none _)
  | (with_reducible refine LeO.ite ?_ ?_)
  | (with_reducible refine LeO.bind ?_ (fun _ => ?_))
  | exact ih0 _ _ _ _ _ _
  | exact ih1 _ _ _ _ _
  | exact ih2 _ _ _ _ _ _
  | exact ih3 _ _ _ _ _ _
  | exact ih4 _ _ _ _ _ _
  | exact LeO.none _
  | refine LeO.ite ?_ ?_
  | refine LeO.bind ?_ (fun _ => ?_)
set_option maxHeartbeats 8000000 in
set_option maxRecDepth 100000 in
theorem tumblerref02_Take.calls (k : Nat) (a0 : ByteArray) (r1 : Bool) (r2 : ByteArray) (r3 : ByteArray) (r4 : Bool) (w : World) (h : tumblerref02_Take.f k a0 = some (r1, r2, r3, r4)) :
 Calls Tryd.prog 116 #[.string a0] w fun e w' => e = .returned (.tuple #[.agg #[.bool r1, .string r2, .string r3], .bool r4]) ∧ Below w.heap.size w w' := by
 have hu133 := Tryd.underlying133; have HB := am (Below.refl w.heap.size w); have H : (if (a0.size : Int) > 0 then (if 0 < (a0.size : Int) then (tumblerref02_Take.j0 k a0 0 ((bt a0 0) == 45) false (⟨#[]⟩ : ByteArray) (⟨#[]⟩ : ByteArray)) else (none)) else (tumblerref02_Take.j0 k a0 0 false false (⟨#[]⟩ : ByteArray) (⟨#[]⟩ : ByteArray))) = some (r1, r2, r3, r4) := h; clear h; have HC2 := Aside0.mk H; clear H
 go_enter Tryd.func116, Tryd.ntmps116
 go_upto_region 3 with (first | ((with_reducible refine gate_dst (N := 2) rfl ?_); refine box_event (by rfl) (N := 2) (by rfl) (cs := #[.bool false, .string (⟨#[]⟩ : ByteArray), .string (⟨#[]⟩ : ByteArray)]) (t := 133) (by go_simp <;> rfl) ?_; intro gb1063 hg w3 hbox hb; have BK1063 := am (hbox); have GW1063 := gw w hg; replace HB := am (below_step bz hb); clear hb hbox hg) | ((with_reducible refine gate_dst (N := 4) rfl ?_); refine box_event (by rfl) (N := 4) (by rfl) (cs := #[.bool false, .string (⟨#[]⟩ : ByteArray), .string (⟨#[]⟩ : ByteArray)]) (t := 133) (by go_simp <;> rfl) ?_; intro gb1064 hg w4 hbox hb; have BK1064 := am (hbox); have GW1064 := gw w hg; replace HB := am (below_step bz hb); have NB1063_1064 := nl BK1063 hg; have NB1064_1063 := nr BK1063 hg; replace BK1063 := am (bb BK1063 hb); clear hb hbox hg; have hnb5 := NB1064_1063.out; have hnc5 := NB1063_1064.out; have hcz6_0 : w4.cell? ⟨gb1064, 0, none⟩ = some (.bool false) := bc BK1064 0; have hcz6_1 : w4.cell? ⟨gb1064, 1, none⟩ = some (.string (⟨#[]⟩ : ByteArray)) := bc BK1064 1; have hcz6_2 : w4.cell? ⟨gb1064, 2, none⟩ = some (.string (⟨#[]⟩ : ByteArray)) := bc BK1064 2; have hfz6_0 := blk_frozen BK1064.out 0; have hfz6_1 := blk_frozen BK1064.out 1; have hfz6_2 := blk_frozen BK1064.out 2))
 (try simp only [Act.put, List.setIfInBounds_toArray, List.set_cons_zero, List.set_cons_succ])
 go_cut [15] (fun v15 wc => ∃ (kq : Nat) (x15_1 : Bool), v15 = .bool x15_1 ∧ Aside0 (tumblerref02_Take.j0 kq a0 0 x15_1 false (⟨#[]⟩ : ByteArray) (⟨#[]⟩ : ByteArray) = some (r1, r2, r3, r4)) ∧ Aside0 (kq ≤ k) ∧ Aside0 (wc.heap[gb1063]? = some (.cells #[.bool false, .string (⟨#[]⟩ : ByteArray), .string (⟨#[]⟩ : ByteArray)] 133 (0, 0))) ∧ Aside0 (wc.heap[gb1064]? = some (.cells #[.bool false, .string (⟨#[]⟩ : ByteArray), .string (⟨#[]⟩ : ByteArray)] 133 (0, 0))) ∧ Aside0 (Below w.heap.size w wc))
 case first =>
  have H := HC2.out; clear HC2
  by_cases c7 : (a0.size : Int) > 0
  · rw [if_pos c7] at H
    have c7b0 : decide (0 < (a0.size : Int)) = true := decide_eq_true c7; have c7b1 : decide (0 < a0.size) = true := decide_eq_true (by omega); clear c7
    (first | rw [c7b0] | (simp only [i64_w, i32_w]; rw [c7b0]) | skip)
    by_cases c8 : 0 < (a0.size : Int)
    · rw [if_pos c8] at H
      have c8b0 : decide (0 < (a0.size : Int)) = true := decide_eq_true c8; have c8b1 : decide (0 < a0.size) = true := decide_eq_true (by omega); clear c8; have H' := Aside0.mk H; clear H; have p9 : 0 ≤ (0 : Int) := (by omega); have q9 : 0 < a0.size := (by have : (0 : Int) < (a0.size : Int) := of_decide_eq_true (by first | (with_reducible assumption) | assumption); omega)
      have hx9 : ∀ h : 0 < a0.size, ((a0[0]'h).toNat : Int) = bt a0 0 := bt_at a0 0
      clear p9; have qi9 : (0 < (a0.size : Int)) = True := eq_true (of_decide_eq_true (by first | (with_reducible assumption) | assumption))
      replace q9 := eq_true q9
      go_wp2
      go_meet
      case rel => exact ⟨_, (((bt a0 0) == 45)), rs, H', ⟨by first | omega | exact Nat.le_refl _⟩, kf, ⟨blk_put (blk_put (blk_put BK1064.out 0 _ rfl) 1 _ rfl) 2 _ rfl⟩, ⟨bz⟩⟩
    · rw [if_neg c8] at H
      exact absurd H (by simp)
  · rw [if_neg c7] at H
    have c7b0 : decide (0 < (a0.size : Int)) = false := decide_eq_false c7; have c7b1 : decide (0 < a0.size) = false := decide_eq_false (by omega); clear c7
    (first | rw [c7b0] | (simp only [i64_w, i32_w]; rw [c7b0]) | skip)
    have H' := Aside0.mk H; clear H
    go_wp2
    go_meet
    case rel => exact ⟨_, (false), rs, H', ⟨by first | omega | exact Nat.le_refl _⟩, kf, ⟨blk_put (blk_put (blk_put BK1064.out 0 _ rfl) 1 _ rfl) 2 _ rfl⟩, ⟨bz⟩⟩
 case rest =>
  clear HC2
  try clear c1
  try clear p2
  try clear c5
  try clear c7
  try clear c7b0
  try clear c7b1
  try clear c8
  try clear c8b0
  try clear c8b1
  try clear p9
  try clear q9
  try clear hx9
  try clear qi9
  try clear hcz6_0
  try clear hcz6_1
  try clear hcz6_2
  try clear hfz6_0
  try clear hfz6_1
  try clear hfz6_2
  try clear p9
  try clear q9
  obtain ⟨kq, x15_1, rfl, HA, HJ1, BK1063, BK1064, HB⟩ := hcut
  cases kq with
  | zero => exact absurd HA.out (by simp [tumblerref02_Take.j0])
  | succ kj1 =>
   have H := HA.out; clear HA
   simp only [tumblerref02_Take.j0] at H
   have HC10 := Aside0.mk H; clear H
   go_upto_if 15 with (fail)
   go_cut [5] (fun v5 wc => ∃ (kq : Nat) (x5_9 : Int) (x1065000_9 : Bool), v5 = .int .i64 x5_9 ∧ Aside0 (tumblerref02_Take.j1 kq a0 x5_9 x1065000_9 (⟨#[]⟩ : ByteArray) (⟨#[]⟩ : ByteArray) = some (r1, r2, r3, r4)) ∧ Aside0 (kq ≤ kj1) ∧ Aside0 (wc.heap[gb1063]? = some (.cells #[.bool false, .string (⟨#[]⟩ : ByteArray), .string (⟨#[]⟩ : ByteArray)] 133 (0, 0))) ∧ Aside0 (wc.heap[gb1064]? = some (.cells #[.bool x1065000_9, .string (⟨#[]⟩ : ByteArray), .string (⟨#[]⟩ : ByteArray)] 133 (0, 0))) ∧ Aside0 (Below w.heap.size w wc))
   case first =>
    have H := HC10.out; clear HC10
    by_cases c11 : x15_1 = true
    · subst c11
      have H1 : (tumblerref02_Take.j1 kj1 a0 1 true (⟨#[]⟩ : ByteArray) (⟨#[]⟩ : ByteArray)) = some (r1, r2, r3, r4) := by rw [if_pos rfl] at H; exact H
      clear H; have H := H1; clear H1; have H' := Aside0.mk H; clear H; have hnb12 := NB1064_1063.out; have hnc12 := NB1063_1064.out; have hcz13_0 : wc.cell? ⟨gb1064, 0, none⟩ = some (.bool false) := bc BK1064 0; have hcz13_1 : wc.cell? ⟨gb1064, 1, none⟩ = some (.string (⟨#[]⟩ : ByteArray)) := bc BK1064 1; have hcz13_2 : wc.cell? ⟨gb1064, 2, none⟩ = some (.string (⟨#[]⟩ : ByteArray)) := bc BK1064 2; have hfz13_0 := blk_frozen BK1064.out 0; have hfz13_1 := blk_frozen BK1064.out 1; have hfz13_2 := blk_frozen BK1064.out 2
      go_wp2
      go_meet
      case rel => exact ⟨_, (1), (true), rs, H', ⟨by have := HJ1.out; first | omega | exact Nat.le_refl _⟩, kf, ⟨blk_put BK1064.out 0 _ rfl⟩, ⟨bz⟩⟩
    · replace c11 := Bool.eq_false_iff.mpr c11
      subst c11
      have H1 : (tumblerref02_Take.j1 kj1 a0 0 false (⟨#[]⟩ : ByteArray) (⟨#[]⟩ : ByteArray)) = some (r1, r2, r3, r4) := by rw [if_neg (show ¬ (false = true) by decide)] at H; exact H
      clear H; have H := H1; clear H1; have H' := Aside0.mk H; clear H
      go_wp2
      go_meet
      case rel => exact ⟨_, (0), (false), rs, H', ⟨by have := HJ1.out; first | omega | exact Nat.le_refl _⟩, kf, kf, ⟨bz⟩⟩
   case rest =>
    clear HC10
    try clear c1
    try clear p2
    try clear c5
    try clear c7
    try clear c7b0
    try clear c7b1
    try clear c8
    try clear c8b0
    try clear c8b1
    try clear p9
    try clear q9
    try clear hx9
    try clear qi9
    try clear c11
    try clear c12
    try clear hcz13_0
    try clear hcz13_1
    try clear hcz13_2
    try clear hcz6_0
    try clear hcz6_1
    try clear hcz6_2
    try clear hfz13_0
    try clear hfz13_1
    try clear hfz13_2
    try clear hfz6_0
    try clear hfz6_1
    try clear hfz6_2
    try clear p2
    try clear p9
    try clear q9
    obtain ⟨kq, x5_9, x1065000_9, rfl, HA, HJ9, BK1063, BK1064, HB⟩ := hcut
    cases kq with
    | zero => exact absurd HA.out (by simp [tumblerref02_Take.j1])
    | succ kj9 =>
     have H := HA.out; clear HA
     simp only [tumblerref02_Take.j1] at H
     have HC14 := Aside0.mk H; clear H
     go_upto_block 0 with (fail)
     go_cut [5] (fun v5 wc => ∃ (kq : Nat) (x5_13 : Int), v5 = .int .i64 x5_13 ∧ Aside0 (tumblerref02_Take.j3 kq a0 x5_13 x5_9 x1065000_9 (⟨#[]⟩ : ByteArray) (⟨#[]⟩ : ByteArray) = some (r1, r2, r3, r4)) ∧ Aside0 (kq ≤ kj9) ∧ Aside0 (wc.heap[gb1063]? = some (.cells #[.bool false, .string (⟨#[]⟩ : ByteArray), .string (⟨#[]⟩ : ByteArray)] 133 (0, 0))) ∧ Aside0 (wc.heap[gb1064]? = some (.cells #[.bool x1065000_9, .string (⟨#[]⟩ : ByteArray), .string (⟨#[]⟩ : ByteArray)] 133 (0, 0))) ∧ Aside0 (Below w.heap.size w wc))
     case first =>
      have H := HC14.out; clear HC14; have H' := Aside0.mk H; clear H
      go_wp2
      go_loopg [5] kj9 (fun kq v5 w' => ∃ (x5_3 : Int), v5 = .int .i64 x5_3 ∧ Aside0 (tumblerref02_Take.l0 kq a0 x5_3 x5_9 x1065000_9 (⟨#[]⟩ : ByteArray) (⟨#[]⟩ : ByteArray) = some (r1, r2, r3, r4)) ∧ Aside0 (kq ≤ kj9) ∧ Aside0 (w'.heap[gb1063]? = some (.cells #[.bool false, .string (⟨#[]⟩ : ByteArray), .string (⟨#[]⟩ : ByteArray)] 133 (0, 0))) ∧ Aside0 (w'.heap[gb1064]? = some (.cells #[.bool x1065000_9, .string (⟨#[]⟩ : ByteArray), .string (⟨#[]⟩ : ByteArray)] 133 (0, 0))) ∧ Aside0 (Below w.heap.size w w'))
      case atStart => exact ⟨(x5_9), rs, H', ⟨Nat.le_refl _⟩, kf, kf, ⟨bz⟩⟩
      case round =>
       clear H'
       try clear c1
       try clear p2
       try clear c5
       try clear c7
       try clear c7b0
       try clear c7b1
       try clear c8
       try clear c8b0
       try clear c8b1
       try clear p9
       try clear q9
       try clear hx9
       try clear qi9
       try clear c11
       try clear c12
       try clear hcz13_0
       try clear hcz13_1
       try clear hcz13_2
       try clear hcz6_0
       try clear hcz6_1
       try clear hcz6_2
       try clear hfz13_0
       try clear hfz13_1
       try clear hfz13_2
       try clear hfz6_0
       try clear hfz6_1
       try clear hfz6_2
       try clear p2
       try clear p9
       try clear q9
       obtain ⟨x5_3, rfl, HA, HK3, BK1063, BK1064, HB⟩ := hrel
       cases gk with
       | zero => exact absurd HA.out (by simp [tumblerref02_Take.l0])
       | succ k3 =>
        have H := HA.out; clear HA
        simp only [tumblerref02_Take.l0] at H
        by_cases c15 : x5_3 < (a0.size : Int)
        · rw [if_pos c15] at H
          have c15b0 : decide (x5_3 < (a0.size : Int)) = true := decide_eq_true c15; clear c15
          (first | rw [c15b0] | (simp only [i64_w, i32_w]; rw [c15b0]) | skip)
          by_cases c16 : 0 ≤ x5_3
          · rw [if_pos c16] at H
            have c16b0 : decide (0 ≤ x5_3) = true := decide_eq_true c16; clear c16
            by_cases c18 : (bt a0 x5_3) ≥ 48
            · rw [if_pos c18] at H
              have c18b0 : decide (48 ≤ (bt a0 x5_3)) = true := decide_eq_true c18; clear c18
              by_cases c20 : (bt a0 x5_3) ≤ 57
              · rw [if_pos c20] at H
                have c20b0 : decide ((bt a0 x5_3) ≤ 57) = true := decide_eq_true c20; clear c20; have H' := Aside0.mk H; clear H; have p17 : 0 ≤ (x5_3 : Int) := of_decide_eq_true (by first | (with_reducible assumption) | assumption); have q17 : x5_3 < (a0.size : Int) := of_decide_eq_true (by first | (with_reducible assumption) | assumption); have hx17 := bt_at a0 x5_3
                replace p17 := eq_true p17
                replace q17 := eq_true q17
                have p19 : 0 ≤ (x5_3 : Int) := of_decide_eq_true (by first | (with_reducible assumption) | assumption); have q19 : x5_3 < (a0.size : Int) := of_decide_eq_true (by first | (with_reducible assumption) | assumption); have hx19 := bt_at a0 x5_3
                replace p19 := eq_true p19
                replace q19 := eq_true q19
                go_wp2
                go_roundg k3
                case measure => have := HJ1.out; have := HJ9.out; have := HK3.out; omega
                case rel => exact ⟨(wrap64 (x5_3 + 1)), rs, H', ⟨by have := HJ1.out; have := HJ9.out; have := HK3.out; omega⟩, kf, kf, ⟨bz⟩⟩
              · rw [if_neg c20] at H
                have c20b0 : decide ((bt a0 x5_3) ≤ 57) = false := decide_eq_false c20; clear c20; have H' := Aside0.mk H; clear H; have p17 : 0 ≤ (x5_3 : Int) := of_decide_eq_true (by first | (with_reducible assumption) | assumption); have q17 : x5_3 < (a0.size : Int) := of_decide_eq_true (by first | (with_reducible assumption) | assumption); have hx17 := bt_at a0 x5_3
                replace p17 := eq_true p17
                replace q17 := eq_true q17
                have p19 : 0 ≤ (x5_3 : Int) := of_decide_eq_true (by first | (with_reducible assumption) | assumption); have q19 : x5_3 < (a0.size : Int) := of_decide_eq_true (by first | (with_reducible assumption) | assumption); have hx19 := bt_at a0 x5_3
                replace p19 := eq_true p19
                replace q19 := eq_true q19
                go_wp2
                go_meet
                case rel => exact ⟨_, (x5_3), rs, H', ⟨by have := HJ1.out; have := HJ9.out; have := HK3.out; first | omega | exact Nat.le_refl _⟩, kf, kf, ⟨bz⟩⟩
            · rw [if_neg c18] at H
              have c18b0 : decide (48 ≤ (bt a0 x5_3)) = false := decide_eq_false c18; clear c18; have H' := Aside0.mk H; clear H; have p17 : 0 ≤ (x5_3 : Int) := of_decide_eq_true (by first | (with_reducible assumption) | assumption); have q17 : x5_3 < (a0.size : Int) := of_decide_eq_true (by first | (with_reducible assumption) | assumption); have hx17 := bt_at a0 x5_3
              replace p17 := eq_true p17
              replace q17 := eq_true q17
              go_wp2
              go_meet
              case rel => exact ⟨_, (x5_3), rs, H', ⟨by have := HJ1.out; have := HJ9.out; have := HK3.out; first | omega | exact Nat.le_refl _⟩, kf, kf, ⟨bz⟩⟩
          · rw [if_neg c16] at H
            exact absurd H (by simp)
        · rw [if_neg c15] at H
          have c15b0 : decide (x5_3 < (a0.size : Int)) = false := decide_eq_false c15; clear c15
          (first | rw [c15b0] | (simp only [i64_w, i32_w]; rw [c15b0]) | skip)
          have H' := Aside0.mk H; clear H
          go_wp2
          go_meet
          case rel => exact ⟨_, (x5_3), rs, H', ⟨by have := HJ1.out; have := HJ9.out; have := HK3.out; first | omega | exact Nat.le_refl _⟩, kf, kf, ⟨bz⟩⟩
     case rest =>
      clear HC14
      try clear c1
      try clear p1
      try clear q1
      try clear hx1
      try clear c2
      try clear p2
      try clear c5
      try clear p6
      try clear c7
      try clear c7b0
      try clear c7b1
      try clear c8
      try clear c8b0
      try clear c8b1
      try clear p9
      try clear q9
      try clear hx9
      try clear qi9
      try clear c11
      try clear c12
      try clear c15
      try clear c15b0
      try clear c16
      try clear c16b0
      try clear p17
      try clear q17
      try clear hx17
      try clear c18
      try clear c18b0
      try clear p19
      try clear q19
      try clear hx19
      try clear c20
      try clear c20b0
      try clear hcz13_0
      try clear hcz13_1
      try clear hcz13_2
      try clear hcz6_0
      try clear hcz6_1
      try clear hcz6_2
      try clear hfz13_0
      try clear hfz13_1
      try clear hfz13_2
      try clear hfz6_0
      try clear hfz6_1
      try clear hfz6_2
      try clear p17
      try clear p19
      try clear p2
      try clear p9
      try clear q17
      try clear q19
      try clear q9
      obtain ⟨kq, x5_13, rfl, HA, HJ13, BK1063, BK1064, HB⟩ := hcut
      cases kq with
      | zero => exact absurd HA.out (by simp [tumblerref02_Take.j3])
      | succ kj13 =>
       have H := HA.out; clear HA
       simp only [tumblerref02_Take.j3] at H
       by_cases c21 : 0 ≤ x5_9
       · rw [if_pos c21] at H
         have c21b0 := eq_true c21; have c21b1 : decide (0 ≤ x5_9) = true := decide_eq_true c21; clear c21
         by_cases c22 : x5_9 ≤ x5_13
         · rw [if_pos c22] at H
           have c22b0 := eq_true c22; have c22b1 : decide (x5_9 ≤ x5_13) = true := decide_eq_true c22; clear c22
           by_cases c23 : x5_13 ≤ (a0.size : Int)
           · rw [if_pos c23] at H
             have c23b0 := eq_true c23; have c23b1 : decide (x5_13 ≤ (a0.size : Int)) = true := decide_eq_true c23; clear c23
             by_cases c24 : x5_13 = x5_9
             · rw [if_pos c24] at H
               have c24b0 : (x5_13 == x5_9) = true := beq_iff_eq.mpr c24; have c24b1 : (x5_13 != x5_9) = false := bne_eq_false_iff_eq.mpr c24; clear c24
               simp only [Option.some.injEq, Prod.mk.injEq] at H
               obtain ⟨rfl, rfl, rfl, rfl⟩ := H
               have hnb25 := NB1064_1063.out; have hnc25 := NB1063_1064.out; have hcz26_0 : wc.cell? ⟨gb1064, 0, none⟩ = some (.bool x1065000_9) := bc BK1064 0; have hcz26_1 : wc.cell? ⟨gb1064, 1, none⟩ = some (.string (⟨#[]⟩ : ByteArray)) := bc BK1064 1; have hcz26_2 : wc.cell? ⟨gb1064, 2, none⟩ = some (.string (⟨#[]⟩ : ByteArray)) := bc BK1064 2; have hfz26_0 := blk_frozen BK1064.out 0; have hfz26_1 := blk_frozen BK1064.out 1; have hfz26_2 := blk_frozen BK1064.out 2; have hcz27_0 : wc.cell? ⟨gb1063, 0, none⟩ = some (.bool false) := bc BK1063 0; have hcz27_1 : wc.cell? ⟨gb1063, 1, none⟩ = some (.string (⟨#[]⟩ : ByteArray)) := bc BK1063 1; have hcz27_2 : wc.cell? ⟨gb1063, 2, none⟩ = some (.string (⟨#[]⟩ : ByteArray)) := bc BK1063 2; have hfz27_0 := blk_frozen BK1063.out 0; have hfz27_1 := blk_frozen BK1063.out 1; have hfz27_2 := blk_frozen BK1063.out 2
               go_wp2
               refine bodyPost_ret (results_ct rfl _ _ gb1063 133 #[.bool x1065000_9, .string (a0.extract (x5_9 : Int).toNat (x5_13 : Int).toNat), .string (⟨#[]⟩ : ByteArray)] (0, 0) _ rfl (blk_put (blk_put (blk_put (blk_far BK1063.out NB1063_1064.out _) 0 _ rfl) 1 _ rfl) 2 _ rfl) Tryd.underlying133 rfl (by kernel_rfl)) rfl ?_
               exact ⟨rg, bz⟩
             · rw [if_neg c24] at H
               have c24b0 : (x5_13 == x5_9) = false := beq_eq_false_iff_ne.mpr c24; have c24b1 : (x5_13 != x5_9) = true := bne_iff_ne.mpr c24
               by_cases c28 : x5_13 = (a0.size : Int)
               · rw [if_pos c28] at H
                 have c28b0 : (x5_13 == (a0.size : Int)) = true := beq_iff_eq.mpr c28; have c28b1 : (x5_13 != (a0.size : Int)) = false := bne_eq_false_iff_eq.mpr c28; clear c28
                 simp only [Option.some.injEq, Prod.mk.injEq] at H
                 obtain ⟨rfl, rfl, rfl, rfl⟩ := H
                 have hnb29 := NB1064_1063.out; have hnc29 := NB1063_1064.out; have hcz30_0 : wc.cell? ⟨gb1064, 0, none⟩ = some (.bool x1065000_9) := bc BK1064 0; have hcz30_1 : wc.cell? ⟨gb1064, 1, none⟩ = some (.string (⟨#[]⟩ : ByteArray)) := bc BK1064 1; have hcz30_2 : wc.cell? ⟨gb1064, 2, none⟩ = some (.string (⟨#[]⟩ : ByteArray)) := bc BK1064 2; have hfz30_0 := blk_frozen BK1064.out 0; have hfz30_1 := blk_frozen BK1064.out 1; have hfz30_2 := blk_frozen BK1064.out 2; have hcz31_0 : wc.cell? ⟨gb1063, 0, none⟩ = some (.bool false) := bc BK1063 0; have hcz31_1 : wc.cell? ⟨gb1063, 1, none⟩ = some (.string (⟨#[]⟩ : ByteArray)) := bc BK1063 1; have hcz31_2 : wc.cell? ⟨gb1063, 2, none⟩ = some (.string (⟨#[]⟩ : ByteArray)) := bc BK1063 2; have hfz31_0 := blk_frozen BK1063.out 0; have hfz31_1 := blk_frozen BK1063.out 1; have hfz31_2 := blk_frozen BK1063.out 2
                 go_wp2
                 refine bodyPost_ret (results_ct rfl _ _ gb1063 133 #[.bool x1065000_9, .string (a0.extract (x5_9 : Int).toNat (x5_13 : Int).toNat), .string (⟨#[]⟩ : ByteArray)] (0, 0) _ rfl (blk_put (blk_put (blk_put (blk_far BK1063.out NB1063_1064.out _) 0 _ rfl) 1 _ rfl) 2 _ rfl) Tryd.underlying133 rfl (by kernel_rfl)) rfl ?_
                 exact ⟨rg, bz⟩
               · rw [if_neg c28] at H
                 have c28b0 : (x5_13 == (a0.size : Int)) = false := beq_eq_false_iff_ne.mpr c28; have c28b1 : (x5_13 != (a0.size : Int)) = true := bne_iff_ne.mpr c28
                 by_cases c32 : 0 ≤ x5_13
                 · rw [if_pos c32] at H
                   have c32b0 : decide (0 ≤ x5_13) = true := decide_eq_true c32; clear c32
                   by_cases c33 : x5_13 < (a0.size : Int)
                   · rw [if_pos c33] at H
                     have c33b0 : decide (x5_13 < (a0.size : Int)) = true := decide_eq_true c33; clear c33
                     by_cases c35 : (bt a0 x5_13) = 46
                     · rw [if_pos c35] at H
                       have c35b0 : ((bt a0 x5_13) == 46) = true := beq_iff_eq.mpr c35; have c35b1 : ((bt a0 x5_13) != 46) = false := bne_eq_false_iff_eq.mpr c35; clear c35; have H' := Aside0.mk H; clear H; have hnb36 := NB1064_1063.out; have hnc36 := NB1063_1064.out; have hcz37_0 : wc.cell? ⟨gb1064, 0, none⟩ = some (.bool x1065000_9) := bc BK1064 0; have hcz37_1 : wc.cell? ⟨gb1064, 1, none⟩ = some (.string (⟨#[]⟩ : ByteArray)) := bc BK1064 1; have hcz37_2 : wc.cell? ⟨gb1064, 2, none⟩ = some (.string (⟨#[]⟩ : ByteArray)) := bc BK1064 2; have hfz37_0 := blk_frozen BK1064.out 0; have hfz37_1 := blk_frozen BK1064.out 1; have hfz37_2 := blk_frozen BK1064.out 2; have p34 : 0 ≤ (x5_13 : Int) := of_decide_eq_true (by first | (with_reducible assumption) | assumption); have q34 : x5_13 < (a0.size : Int) := of_decide_eq_true (by first | (with_reducible assumption) | assumption); have hx34 := bt_at a0 x5_13
                       replace p34 := eq_true p34
                       replace q34 := eq_true q34
                       go_wp2
                       go_loopg [5] kj13 (fun kq v5 w' => ∃ (x5_4 : Int), v5 = .int .i64 x5_4 ∧ Aside0 (tumblerref02_Take.l1 kq a0 x5_4 (wrap64 (x5_13 + 1)) x1065000_9 (a0.extract (x5_9 : Int).toNat (x5_13 : Int).toNat) (⟨#[]⟩ : ByteArray) = some (r1, r2, r3, r4)) ∧ Aside0 (kq ≤ kj13) ∧ Aside0 (w'.heap[gb1063]? = some (.cells #[.bool false, .string (⟨#[]⟩ : ByteArray), .string (⟨#[]⟩ : ByteArray)] 133 (0, 0))) ∧ Aside0 (w'.heap[gb1064]? = some (.cells #[.bool x1065000_9, .string (a0.extract (x5_9 : Int).toNat (x5_13 : Int).toNat), .string (⟨#[]⟩ : ByteArray)] 133 (0, 0))) ∧ Aside0 (Below w.heap.size w w'))
                       case atStart => exact ⟨(wrap64 (x5_13 + 1)), rs, H', ⟨Nat.le_refl _⟩, kf, ⟨blk_put BK1064.out 1 _ rfl⟩, ⟨bz⟩⟩
                       case round =>
                        clear H'
                        try clear c1
                        try clear p1
                        try clear q1
                        try clear hx1
                        try clear c2
                        try clear p2
                        try clear c3
                        try clear p3
                        try clear q3
                        try clear hx3
                        try clear c5
                        try clear p6
                        try clear c7
                        try clear c7b0
                        try clear c7b1
                        try clear c8
                        try clear c8b0
                        try clear c8b1
                        try clear p9
                        try clear q9
                        try clear hx9
                        try clear qi9
                        try clear c11
                        try clear c12
                        try clear c15
                        try clear c15b0
                        try clear c16
                        try clear c16b0
                        try clear p17
                        try clear q17
                        try clear hx17
                        try clear c18
                        try clear c18b0
                        try clear p19
                        try clear q19
                        try clear hx19
                        try clear c20
                        try clear c20b0
                        try clear c21
                        try clear c21b0
                        try clear c21b1
                        try clear c22
                        try clear c22b0
                        try clear c22b1
                        try clear c23
                        try clear c23b0
                        try clear c23b1
                        try clear c24
                        try clear c24b0
                        try clear c24b1
                        try clear c25
                        try clear c28
                        try clear c28b0
                        try clear c28b1
                        try clear c29
                        try clear c32
                        try clear c32b0
                        try clear c33
                        try clear c33b0
                        try clear p34
                        try clear q34
                        try clear hx34
                        try clear c35
                        try clear c35b0
                        try clear c35b1
                        try clear c36
                        try clear hcz13_0
                        try clear hcz13_1
                        try clear hcz13_2
                        try clear hcz26_0
                        try clear hcz26_1
                        try clear hcz26_2
                        try clear hcz27_0
                        try clear hcz27_1
                        try clear hcz27_2
                        try clear hcz30_0
                        try clear hcz30_1
                        try clear hcz30_2
                        try clear hcz31_0
                        try clear hcz31_1
                        try clear hcz31_2
                        try clear hcz37_0
                        try clear hcz37_1
                        try clear hcz37_2
                        try clear hcz6_0
                        try clear hcz6_1
                        try clear hcz6_2
                        try clear hfz13_0
                        try clear hfz13_1
                        try clear hfz13_2
                        try clear hfz26_0
                        try clear hfz26_1
                        try clear hfz26_2
                        try clear hfz27_0
                        try clear hfz27_1
                        try clear hfz27_2
                        try clear hfz30_0
                        try clear hfz30_1
                        try clear hfz30_2
                        try clear hfz31_0
                        try clear hfz31_1
                        try clear hfz31_2
                        try clear hfz37_0
                        try clear hfz37_1
                        try clear hfz37_2
                        try clear hfz6_0
                        try clear hfz6_1
                        try clear hfz6_2
                        try clear p1
                        try clear p17
                        try clear p19
                        try clear p2
                        try clear p34
                        try clear p6
                        try clear p9
                        try clear q1
                        try clear q17
                        try clear q19
                        try clear q34
                        try clear q9
                        obtain ⟨x5_4, rfl, HA, HK4, BK1063, BK1064, HB⟩ := hrel
                        cases gk with
                        | zero => exact absurd HA.out (by simp [tumblerref02_Take.l1])
                        | succ k4 =>
                         have H := HA.out; clear HA
                         simp only [tumblerref02_Take.l1] at H
                         by_cases c38 : x5_4 < (a0.size : Int)
                         · rw [if_pos c38] at H
                           have c38b0 : decide (x5_4 < (a0.size : Int)) = true := decide_eq_true c38; clear c38
                           by_cases c39 : 0 ≤ x5_4
                           · rw [if_pos c39] at H
                             have c39b0 : decide (0 ≤ x5_4) = true := decide_eq_true c39; clear c39
                             by_cases c41 : (bt a0 x5_4) ≥ 48
                             · rw [if_pos c41] at H
                               have c41b0 : decide (48 ≤ (bt a0 x5_4)) = true := decide_eq_true c41; clear c41
                               by_cases c43 : (bt a0 x5_4) ≤ 57
                               · rw [if_pos c43] at H
                                 have c43b0 : decide ((bt a0 x5_4) ≤ 57) = true := decide_eq_true c43; clear c43; have H' := Aside0.mk H; clear H; have p40 : 0 ≤ (x5_4 : Int) := of_decide_eq_true (by first | (with_reducible assumption) | assumption); have q40 : x5_4 < (a0.size : Int) := of_decide_eq_true (by first | (with_reducible assumption) | assumption); have hx40 := bt_at a0 x5_4
                                 replace p40 := eq_true p40
                                 replace q40 := eq_true q40
                                 have p42 : 0 ≤ (x5_4 : Int) := of_decide_eq_true (by first | (with_reducible assumption) | assumption); have q42 : x5_4 < (a0.size : Int) := of_decide_eq_true (by first | (with_reducible assumption) | assumption); have hx42 := bt_at a0 x5_4
                                 replace p42 := eq_true p42
                                 replace q42 := eq_true q42
                                 go_wp2
                                 go_roundg k4
                                 case measure => have := HJ1.out; have := HJ9.out; have := HJ13.out; have := HK4.out; omega
                                 case rel => exact ⟨(wrap64 (x5_4 + 1)), rs, H', ⟨by have := HJ1.out; have := HJ9.out; have := HJ13.out; have := HK4.out; omega⟩, kf, kf, ⟨bz⟩⟩
                               · rw [if_neg c43] at H
                                 have c43b0 : decide ((bt a0 x5_4) ≤ 57) = false := decide_eq_false c43; clear c43
                                 obtain ⟨ji44, hji44⟩ : ∃ j_ : Int, (wrap64 (x5_13 + 1)) = j_ := ⟨_, rfl⟩
                                 replace H : (if 0 ≤ (ji44) then (if (ji44) ≤ x5_4 then (if x5_4 ≤ (a0.size : Int) then (if x5_4 = (a0.size : Int) then (some (x1065000_9, (a0.extract (x5_9 : Int).toNat (x5_13 : Int).toNat), a0.extract ((ji44) : Int).toNat (x5_4 : Int).toNat, decide (x5_4 > (ji44)))) else (some (x1065000_9, (a0.extract (x5_9 : Int).toNat (x5_13 : Int).toNat), a0.extract ((ji44) : Int).toNat (x5_4 : Int).toNat, false))) else (none)) else (none)) else (none)) = some (r1, r2, r3, r4) := by first | (rw [hji44] at H; exact H) | (simp only [hji44] at H ⊢; exact H)
                                 have hji44w : (IntKind.i64.wrap (x5_13 + 1)) = ji44 := (i64_w _).trans hji44
                                 by_cases c45 : 0 ≤ (ji44)
                                 · rw [if_pos c45] at H
                                   have c45b0 := eq_true c45; have c45b1 : decide (0 ≤ (ji44)) = true := decide_eq_true c45; clear c45
                                   by_cases c46 : (ji44) ≤ x5_4
                                   · rw [if_pos c46] at H
                                     have c46b0 := eq_true c46; have c46b1 : decide ((ji44) ≤ x5_4) = true := decide_eq_true c46; clear c46
                                     by_cases c47 : x5_4 ≤ (a0.size : Int)
                                     · rw [if_pos c47] at H
                                       have c47b0 := eq_true c47; have c47b1 : decide (x5_4 ≤ (a0.size : Int)) = true := decide_eq_true c47; clear c47
                                       by_cases c48 : x5_4 = (a0.size : Int)
                                       · rw [if_pos c48] at H
                                         have c48b0 : (x5_4 == (a0.size : Int)) = true := beq_iff_eq.mpr c48; have c48b1 : (x5_4 != (a0.size : Int)) = false := bne_eq_false_iff_eq.mpr c48; clear c48
                                         simp only [Option.some.injEq, Prod.mk.injEq] at H
                                         obtain ⟨rfl, rfl, rfl, rfl⟩ := H
                                         have p40 : 0 ≤ (x5_4 : Int) := of_decide_eq_true (by first | (with_reducible assumption) | assumption); have q40 : x5_4 < (a0.size : Int) := of_decide_eq_true (by first | (with_reducible assumption) | assumption); have hx40 := bt_at a0 x5_4
                                         replace p40 := eq_true p40
                                         replace q40 := eq_true q40
                                         have p42 : 0 ≤ (x5_4 : Int) := of_decide_eq_true (by first | (with_reducible assumption) | assumption); have q42 : x5_4 < (a0.size : Int) := of_decide_eq_true (by first | (with_reducible assumption) | assumption); have hx42 := bt_at a0 x5_4
                                         replace p42 := eq_true p42
                                         replace q42 := eq_true q42
                                         have hnb49 := NB1064_1063.out; have hnc49 := NB1063_1064.out; have hcz50_0 : wr.cell? ⟨gb1064, 0, none⟩ = some (.bool x1065000_9) := bc BK1064 0; have hcz50_1 : wr.cell? ⟨gb1064, 1, none⟩ = some (.string (a0.extract (x5_9 : Int).toNat (x5_13 : Int).toNat)) := bc BK1064 1; have hcz50_2 : wr.cell? ⟨gb1064, 2, none⟩ = some (.string (⟨#[]⟩ : ByteArray)) := bc BK1064 2; have hfz50_0 := blk_frozen BK1064.out 0; have hfz50_1 := blk_frozen BK1064.out 1; have hfz50_2 := blk_frozen BK1064.out 2; have hcz51_0 : wr.cell? ⟨gb1063, 0, none⟩ = some (.bool false) := bc BK1063 0; have hcz51_1 : wr.cell? ⟨gb1063, 1, none⟩ = some (.string (⟨#[]⟩ : ByteArray)) := bc BK1063 1; have hcz51_2 : wr.cell? ⟨gb1063, 2, none⟩ = some (.string (⟨#[]⟩ : ByteArray)) := bc BK1063 2; have hfz51_0 := blk_frozen BK1063.out 0; have hfz51_1 := blk_frozen BK1063.out 1; have hfz51_2 := blk_frozen BK1063.out 2
                                         go_wp2
                                         refine bodyPost_ret (results_ct rfl _ _ gb1063 133 #[.bool x1065000_9, .string (a0.extract (x5_9 : Int).toNat (x5_13 : Int).toNat), .string (a0.extract ((ji44) : Int).toNat (x5_4 : Int).toNat)] (0, 0) _ rfl (blk_put (blk_put (blk_put (blk_far BK1063.out NB1063_1064.out _) 0 _ rfl) 1 _ rfl) 2 _ rfl) Tryd.underlying133 rfl (by kernel_rfl)) rfl ?_
                                         exact ⟨by first | rfl | (simp [errW_none, errW_some] <;> rfl) | (simp only [← hji44]; first | rfl | (simp [errW_none, errW_some] <;> rfl)) | (simp [*, errW_none, errW_some] <;> rfl), bz⟩
                                       · rw [if_neg c48] at H
                                         have c48b0 : (x5_4 == (a0.size : Int)) = false := beq_eq_false_iff_ne.mpr c48; have c48b1 : (x5_4 != (a0.size : Int)) = true := bne_iff_ne.mpr c48
                                         simp only [Option.some.injEq, Prod.mk.injEq] at H
                                         obtain ⟨rfl, rfl, rfl, rfl⟩ := H
                                         have p40 : 0 ≤ (x5_4 : Int) := of_decide_eq_true (by first | (with_reducible assumption) | assumption); have q40 : x5_4 < (a0.size : Int) := of_decide_eq_true (by first | (with_reducible assumption) | assumption); have hx40 := bt_at a0 x5_4
                                         replace p40 := eq_true p40
                                         replace q40 := eq_true q40
                                         have p42 : 0 ≤ (x5_4 : Int) := of_decide_eq_true (by first | (with_reducible assumption) | assumption); have q42 : x5_4 < (a0.size : Int) := of_decide_eq_true (by first | (with_reducible assumption) | assumption); have hx42 := bt_at a0 x5_4
                                         replace p42 := eq_true p42
                                         replace q42 := eq_true q42
                                         have hnb52 := NB1064_1063.out; have hnc52 := NB1063_1064.out; have hcz53_0 : wr.cell? ⟨gb1064, 0, none⟩ = some (.bool x1065000_9) := bc BK1064 0; have hcz53_1 : wr.cell? ⟨gb1064, 1, none⟩ = some (.string (a0.extract (x5_9 : Int).toNat (x5_13 : Int).toNat)) := bc BK1064 1; have hcz53_2 : wr.cell? ⟨gb1064, 2, none⟩ = some (.string (⟨#[]⟩ : ByteArray)) := bc BK1064 2; have hfz53_0 := blk_frozen BK1064.out 0; have hfz53_1 := blk_frozen BK1064.out 1; have hfz53_2 := blk_frozen BK1064.out 2; have hcz54_0 : wr.cell? ⟨gb1063, 0, none⟩ = some (.bool false) := bc BK1063 0; have hcz54_1 : wr.cell? ⟨gb1063, 1, none⟩ = some (.string (⟨#[]⟩ : ByteArray)) := bc BK1063 1; have hcz54_2 : wr.cell? ⟨gb1063, 2, none⟩ = some (.string (⟨#[]⟩ : ByteArray)) := bc BK1063 2; have hfz54_0 := blk_frozen BK1063.out 0; have hfz54_1 := blk_frozen BK1063.out 1; have hfz54_2 := blk_frozen BK1063.out 2
                                         go_wp2
                                         refine bodyPost_ret (results_ct rfl _ _ gb1063 133 #[.bool x1065000_9, .string (a0.extract (x5_9 : Int).toNat (x5_13 : Int).toNat), .string (a0.extract ((ji44) : Int).toNat (x5_4 : Int).toNat)] (0, 0) _ rfl (blk_put (blk_put (blk_put (blk_far BK1063.out NB1063_1064.out _) 0 _ rfl) 1 _ rfl) 2 _ rfl) Tryd.underlying133 rfl (by kernel_rfl)) rfl ?_
                                         exact ⟨by first | rfl | (simp [errW_none, errW_some] <;> rfl) | (simp only [← hji44]; first | rfl | (simp [errW_none, errW_some] <;> rfl)) | (simp [*, errW_none, errW_some] <;> rfl), bz⟩
                                     · rw [if_neg c47] at H
                                       exact absurd H (by simp)
                                   · rw [if_neg c46] at H
                                     exact absurd H (by simp)
                                 · rw [if_neg c45] at H
                                   exact absurd H (by simp)
                             · rw [if_neg c41] at H
                               have c41b0 : decide (48 ≤ (bt a0 x5_4)) = false := decide_eq_false c41; clear c41
                               obtain ⟨ji55, hji55⟩ : ∃ j_ : Int, (wrap64 (x5_13 + 1)) = j_ := ⟨_, rfl⟩
                               replace H : (if 0 ≤ (ji55) then (if (ji55) ≤ x5_4 then (if x5_4 ≤ (a0.size : Int) then (if x5_4 = (a0.size : Int) then (some (x1065000_9, (a0.extract (x5_9 : Int).toNat (x5_13 : Int).toNat), a0.extract ((ji55) : Int).toNat (x5_4 : Int).toNat, decide (x5_4 > (ji55)))) else (some (x1065000_9, (a0.extract (x5_9 : Int).toNat (x5_13 : Int).toNat), a0.extract ((ji55) : Int).toNat (x5_4 : Int).toNat, false))) else (none)) else (none)) else (none)) = some (r1, r2, r3, r4) := by first | (rw [hji55] at H; exact H) | (simp only [hji55] at H ⊢; exact H)
                               have hji55w : (IntKind.i64.wrap (x5_13 + 1)) = ji55 := (i64_w _).trans hji55
                               by_cases c56 : 0 ≤ (ji55)
                               · rw [if_pos c56] at H
                                 have c56b0 := eq_true c56; have c56b1 : decide (0 ≤ (ji55)) = true := decide_eq_true c56; clear c56
                                 by_cases c57 : (ji55) ≤ x5_4
                                 · rw [if_pos c57] at H
                                   have c57b0 := eq_true c57; have c57b1 : decide ((ji55) ≤ x5_4) = true := decide_eq_true c57; clear c57
                                   by_cases c58 : x5_4 ≤ (a0.size : Int)
                                   · rw [if_pos c58] at H
                                     have c58b0 := eq_true c58; have c58b1 : decide (x5_4 ≤ (a0.size : Int)) = true := decide_eq_true c58; clear c58
                                     by_cases c59 : x5_4 = (a0.size : Int)
                                     · rw [if_pos c59] at H
                                       have c59b0 : (x5_4 == (a0.size : Int)) = true := beq_iff_eq.mpr c59; have c59b1 : (x5_4 != (a0.size : Int)) = false := bne_eq_false_iff_eq.mpr c59; clear c59
                                       simp only [Option.some.injEq, Prod.mk.injEq] at H
                                       obtain ⟨rfl, rfl, rfl, rfl⟩ := H
                                       have p40 : 0 ≤ (x5_4 : Int) := of_decide_eq_true (by first | (with_reducible assumption) | assumption); have q40 : x5_4 < (a0.size : Int) := of_decide_eq_true (by first | (with_reducible assumption) | assumption); have hx40 := bt_at a0 x5_4
                                       replace p40 := eq_true p40
                                       replace q40 := eq_true q40
                                       have hnb60 := NB1064_1063.out; have hnc60 := NB1063_1064.out; have hcz61_0 : wr.cell? ⟨gb1064, 0, none⟩ = some (.bool x1065000_9) := bc BK1064 0; have hcz61_1 : wr.cell? ⟨gb1064, 1, none⟩ = some (.string (a0.extract (x5_9 : Int).toNat (x5_13 : Int).toNat)) := bc BK1064 1; have hcz61_2 : wr.cell? ⟨gb1064, 2, none⟩ = some (.string (⟨#[]⟩ : ByteArray)) := bc BK1064 2; have hfz61_0 := blk_frozen BK1064.out 0; have hfz61_1 := blk_frozen BK1064.out 1; have hfz61_2 := blk_frozen BK1064.out 2; have hcz62_0 : wr.cell? ⟨gb1063, 0, none⟩ = some (.bool false) := bc BK1063 0; have hcz62_1 : wr.cell? ⟨gb1063, 1, none⟩ = some (.string (⟨#[]⟩ : ByteArray)) := bc BK1063 1; have hcz62_2 : wr.cell? ⟨gb1063, 2, none⟩ = some (.string (⟨#[]⟩ : ByteArray)) := bc BK1063 2; have hfz62_0 := blk_frozen BK1063.out 0; have hfz62_1 := blk_frozen BK1063.out 1; have hfz62_2 := blk_frozen BK1063.out 2
                                       go_wp2
                                       refine bodyPost_ret (results_ct rfl _ _ gb1063 133 #[.bool x1065000_9, .string (a0.extract (x5_9 : Int).toNat (x5_13 : Int).toNat), .string (a0.extract ((ji55) : Int).toNat (x5_4 : Int).toNat)] (0, 0) _ rfl (blk_put (blk_put (blk_put (blk_far BK1063.out NB1063_1064.out _) 0 _ rfl) 1 _ rfl) 2 _ rfl) Tryd.underlying133 rfl (by kernel_rfl)) rfl ?_
                                       exact ⟨by first | rfl | (simp [errW_none, errW_some] <;> rfl) | (simp only [← hji55]; first | rfl | (simp [errW_none, errW_some] <;> rfl)) | (simp [*, errW_none, errW_some] <;> rfl), bz⟩
                                     · rw [if_neg c59] at H
                                       have c59b0 : (x5_4 == (a0.size : Int)) = false := beq_eq_false_iff_ne.mpr c59; have c59b1 : (x5_4 != (a0.size : Int)) = true := bne_iff_ne.mpr c59
                                       simp only [Option.some.injEq, Prod.mk.injEq] at H
                                       obtain ⟨rfl, rfl, rfl, rfl⟩ := H
                                       have p40 : 0 ≤ (x5_4 : Int) := of_decide_eq_true (by first | (with_reducible assumption) | assumption); have q40 : x5_4 < (a0.size : Int) := of_decide_eq_true (by first | (with_reducible assumption) | assumption); have hx40 := bt_at a0 x5_4
                                       replace p40 := eq_true p40
                                       replace q40 := eq_true q40
                                       have hnb63 := NB1064_1063.out; have hnc63 := NB1063_1064.out; have hcz64_0 : wr.cell? ⟨gb1064, 0, none⟩ = some (.bool x1065000_9) := bc BK1064 0; have hcz64_1 : wr.cell? ⟨gb1064, 1, none⟩ = some (.string (a0.extract (x5_9 : Int).toNat (x5_13 : Int).toNat)) := bc BK1064 1; have hcz64_2 : wr.cell? ⟨gb1064, 2, none⟩ = some (.string (⟨#[]⟩ : ByteArray)) := bc BK1064 2; have hfz64_0 := blk_frozen BK1064.out 0; have hfz64_1 := blk_frozen BK1064.out 1; have hfz64_2 := blk_frozen BK1064.out 2; have hcz65_0 : wr.cell? ⟨gb1063, 0, none⟩ = some (.bool false) := bc BK1063 0; have hcz65_1 : wr.cell? ⟨gb1063, 1, none⟩ = some (.string (⟨#[]⟩ : ByteArray)) := bc BK1063 1; have hcz65_2 : wr.cell? ⟨gb1063, 2, none⟩ = some (.string (⟨#[]⟩ : ByteArray)) := bc BK1063 2; have hfz65_0 := blk_frozen BK1063.out 0; have hfz65_1 := blk_frozen BK1063.out 1; have hfz65_2 := blk_frozen BK1063.out 2
                                       go_wp2
                                       refine bodyPost_ret (results_ct rfl _ _ gb1063 133 #[.bool x1065000_9, .string (a0.extract (x5_9 : Int).toNat (x5_13 : Int).toNat), .string (a0.extract ((ji55) : Int).toNat (x5_4 : Int).toNat)] (0, 0) _ rfl (blk_put (blk_put (blk_put (blk_far BK1063.out NB1063_1064.out _) 0 _ rfl) 1 _ rfl) 2 _ rfl) Tryd.underlying133 rfl (by kernel_rfl)) rfl ?_
                                       exact ⟨by first | rfl | (simp [errW_none, errW_some] <;> rfl) | (simp only [← hji55]; first | rfl | (simp [errW_none, errW_some] <;> rfl)) | (simp [*, errW_none, errW_some] <;> rfl), bz⟩
                                   · rw [if_neg c58] at H
                                     exact absurd H (by simp)
                                 · rw [if_neg c57] at H
                                   exact absurd H (by simp)
                               · rw [if_neg c56] at H
                                 exact absurd H (by simp)
                           · rw [if_neg c39] at H
                             exact absurd H (by simp)
                         · rw [if_neg c38] at H
                           have c38b0 : decide (x5_4 < (a0.size : Int)) = false := decide_eq_false c38; clear c38
                           obtain ⟨ji66, hji66⟩ : ∃ j_ : Int, (wrap64 (x5_13 + 1)) = j_ := ⟨_, rfl⟩
                           replace H : (if 0 ≤ (ji66) then (if (ji66) ≤ x5_4 then (if x5_4 ≤ (a0.size : Int) then (if x5_4 = (a0.size : Int) then (some (x1065000_9, (a0.extract (x5_9 : Int).toNat (x5_13 : Int).toNat), a0.extract ((ji66) : Int).toNat (x5_4 : Int).toNat, decide (x5_4 > (ji66)))) else (some (x1065000_9, (a0.extract (x5_9 : Int).toNat (x5_13 : Int).toNat), a0.extract ((ji66) : Int).toNat (x5_4 : Int).toNat, false))) else (none)) else (none)) else (none)) = some (r1, r2, r3, r4) := by first | (rw [hji66] at H; exact H) | (simp only [hji66] at H ⊢; exact H)
                           have hji66w : (IntKind.i64.wrap (x5_13 + 1)) = ji66 := (i64_w _).trans hji66
                           by_cases c67 : 0 ≤ (ji66)
                           · rw [if_pos c67] at H
                             have c67b0 := eq_true c67; have c67b1 : decide (0 ≤ (ji66)) = true := decide_eq_true c67; clear c67
                             by_cases c68 : (ji66) ≤ x5_4
                             · rw [if_pos c68] at H
                               have c68b0 := eq_true c68; have c68b1 : decide ((ji66) ≤ x5_4) = true := decide_eq_true c68; clear c68
                               by_cases c69 : x5_4 ≤ (a0.size : Int)
                               · rw [if_pos c69] at H
                                 have c69b0 := eq_true c69; have c69b1 : decide (x5_4 ≤ (a0.size : Int)) = true := decide_eq_true c69; clear c69
                                 by_cases c70 : x5_4 = (a0.size : Int)
                                 · rw [if_pos c70] at H
                                   have c70b0 : (x5_4 == (a0.size : Int)) = true := beq_iff_eq.mpr c70; have c70b1 : (x5_4 != (a0.size : Int)) = false := bne_eq_false_iff_eq.mpr c70; clear c70
                                   simp only [Option.some.injEq, Prod.mk.injEq] at H
                                   obtain ⟨rfl, rfl, rfl, rfl⟩ := H
                                   have hnb71 := NB1064_1063.out; have hnc71 := NB1063_1064.out; have hcz72_0 : wr.cell? ⟨gb1064, 0, none⟩ = some (.bool x1065000_9) := bc BK1064 0; have hcz72_1 : wr.cell? ⟨gb1064, 1, none⟩ = some (.string (a0.extract (x5_9 : Int).toNat (x5_13 : Int).toNat)) := bc BK1064 1; have hcz72_2 : wr.cell? ⟨gb1064, 2, none⟩ = some (.string (⟨#[]⟩ : ByteArray)) := bc BK1064 2; have hfz72_0 := blk_frozen BK1064.out 0; have hfz72_1 := blk_frozen BK1064.out 1; have hfz72_2 := blk_frozen BK1064.out 2; have hcz73_0 : wr.cell? ⟨gb1063, 0, none⟩ = some (.bool false) := bc BK1063 0; have hcz73_1 : wr.cell? ⟨gb1063, 1, none⟩ = some (.string (⟨#[]⟩ : ByteArray)) := bc BK1063 1; have hcz73_2 : wr.cell? ⟨gb1063, 2, none⟩ = some (.string (⟨#[]⟩ : ByteArray)) := bc BK1063 2; have hfz73_0 := blk_frozen BK1063.out 0; have hfz73_1 := blk_frozen BK1063.out 1; have hfz73_2 := blk_frozen BK1063.out 2
                                   go_wp2
                                   refine bodyPost_ret (results_ct rfl _ _ gb1063 133 #[.bool x1065000_9, .string (a0.extract (x5_9 : Int).toNat (x5_13 : Int).toNat), .string (a0.extract ((ji66) : Int).toNat (x5_4 : Int).toNat)] (0, 0) _ rfl (blk_put (blk_put (blk_put (blk_far BK1063.out NB1063_1064.out _) 0 _ rfl) 1 _ rfl) 2 _ rfl) Tryd.underlying133 rfl (by kernel_rfl)) rfl ?_
                                   exact ⟨by first | rfl | (simp [errW_none, errW_some] <;> rfl) | (simp only [← hji66]; first | rfl | (simp [errW_none, errW_some] <;> rfl)) | (simp [*, errW_none, errW_some] <;> rfl), bz⟩
                                 · rw [if_neg c70] at H
                                   have c70b0 : (x5_4 == (a0.size : Int)) = false := beq_eq_false_iff_ne.mpr c70; have c70b1 : (x5_4 != (a0.size : Int)) = true := bne_iff_ne.mpr c70
                                   simp only [Option.some.injEq, Prod.mk.injEq] at H
                                   obtain ⟨rfl, rfl, rfl, rfl⟩ := H
                                   have hnb74 := NB1064_1063.out; have hnc74 := NB1063_1064.out; have hcz75_0 : wr.cell? ⟨gb1064, 0, none⟩ = some (.bool x1065000_9) := bc BK1064 0; have hcz75_1 : wr.cell? ⟨gb1064, 1, none⟩ = some (.string (a0.extract (x5_9 : Int).toNat (x5_13 : Int).toNat)) := bc BK1064 1; have hcz75_2 : wr.cell? ⟨gb1064, 2, none⟩ = some (.string (⟨#[]⟩ : ByteArray)) := bc BK1064 2; have hfz75_0 := blk_frozen BK1064.out 0; have hfz75_1 := blk_frozen BK1064.out 1; have hfz75_2 := blk_frozen BK1064.out 2; have hcz76_0 : wr.cell? ⟨gb1063, 0, none⟩ = some (.bool false) := bc BK1063 0; have hcz76_1 : wr.cell? ⟨gb1063, 1, none⟩ = some (.string (⟨#[]⟩ : ByteArray)) := bc BK1063 1; have hcz76_2 : wr.cell? ⟨gb1063, 2, none⟩ = some (.string (⟨#[]⟩ : ByteArray)) := bc BK1063 2; have hfz76_0 := blk_frozen BK1063.out 0; have hfz76_1 := blk_frozen BK1063.out 1; have hfz76_2 := blk_frozen BK1063.out 2
                                   go_wp2
                                   refine bodyPost_ret (results_ct rfl _ _ gb1063 133 #[.bool x1065000_9, .string (a0.extract (x5_9 : Int).toNat (x5_13 : Int).toNat), .string (a0.extract ((ji66) : Int).toNat (x5_4 : Int).toNat)] (0, 0) _ rfl (blk_put (blk_put (blk_put (blk_far BK1063.out NB1063_1064.out _) 0 _ rfl) 1 _ rfl) 2 _ rfl) Tryd.underlying133 rfl (by kernel_rfl)) rfl ?_
                                   exact ⟨by first | rfl | (simp [errW_none, errW_some] <;> rfl) | (simp only [← hji66]; first | rfl | (simp [errW_none, errW_some] <;> rfl)) | (simp [*, errW_none, errW_some] <;> rfl), bz⟩
                               · rw [if_neg c69] at H
                                 exact absurd H (by simp)
                             · rw [if_neg c68] at H
                               exact absurd H (by simp)
                           · rw [if_neg c67] at H
                             exact absurd H (by simp)
                     · rw [if_neg c35] at H
                       have c35b0 : ((bt a0 x5_13) == 46) = false := beq_eq_false_iff_ne.mpr c35; have c35b1 : ((bt a0 x5_13) != 46) = true := bne_iff_ne.mpr c35
                       simp only [Option.some.injEq, Prod.mk.injEq] at H
                       obtain ⟨rfl, rfl, rfl, rfl⟩ := H
                       have hnb77 := NB1064_1063.out; have hnc77 := NB1063_1064.out; have hcz78_0 : wc.cell? ⟨gb1064, 0, none⟩ = some (.bool x1065000_9) := bc BK1064 0; have hcz78_1 : wc.cell? ⟨gb1064, 1, none⟩ = some (.string (⟨#[]⟩ : ByteArray)) := bc BK1064 1; have hcz78_2 : wc.cell? ⟨gb1064, 2, none⟩ = some (.string (⟨#[]⟩ : ByteArray)) := bc BK1064 2; have hfz78_0 := blk_frozen BK1064.out 0; have hfz78_1 := blk_frozen BK1064.out 1; have hfz78_2 := blk_frozen BK1064.out 2; have p34 : 0 ≤ (x5_13 : Int) := of_decide_eq_true (by first | (with_reducible assumption) | assumption); have q34 : x5_13 < (a0.size : Int) := of_decide_eq_true (by first | (with_reducible assumption) | assumption); have hx34 := bt_at a0 x5_13
                       replace p34 := eq_true p34
                       replace q34 := eq_true q34
                       have hcz79_0 : wc.cell? ⟨gb1063, 0, none⟩ = some (.bool false) := bc BK1063 0; have hcz79_1 : wc.cell? ⟨gb1063, 1, none⟩ = some (.string (⟨#[]⟩ : ByteArray)) := bc BK1063 1; have hcz79_2 : wc.cell? ⟨gb1063, 2, none⟩ = some (.string (⟨#[]⟩ : ByteArray)) := bc BK1063 2; have hfz79_0 := blk_frozen BK1063.out 0; have hfz79_1 := blk_frozen BK1063.out 1; have hfz79_2 := blk_frozen BK1063.out 2
                       go_wp2
                       refine bodyPost_ret (results_ct rfl _ _ gb1063 133 #[.bool x1065000_9, .string (a0.extract (x5_9 : Int).toNat (x5_13 : Int).toNat), .string (⟨#[]⟩ : ByteArray)] (0, 0) _ rfl (blk_put (blk_put (blk_put (blk_far BK1063.out NB1063_1064.out _) 0 _ rfl) 1 _ rfl) 2 _ rfl) Tryd.underlying133 rfl (by kernel_rfl)) rfl ?_
                       exact ⟨rg, bz⟩
                   · rw [if_neg c33] at H
                     exact absurd H (by simp)
                 · rw [if_neg c32] at H
                   exact absurd H (by simp)
           · rw [if_neg c23] at H
             exact absurd H (by simp)
         · rw [if_neg c22] at H
           exact absurd H (by simp)
       · rw [if_neg c21] at H
         exact absurd H (by simp)

end Go.Proofs.YtcfhmbhlibhlnaaDoor.P
