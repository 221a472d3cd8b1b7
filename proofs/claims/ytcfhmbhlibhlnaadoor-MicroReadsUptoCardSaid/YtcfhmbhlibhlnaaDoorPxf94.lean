-- Printed by this session's own pp.py (wip/tool) out of the translation.
import Derived.Test.YtcfhmbhlibhlnaaDoorPx0
namespace Go.Proofs.YtcfhmbhlibhlnaaDoor.P
open Go.RowKit Go.Proofs.YtcfhmbhlibhlnaaDoorW.PrintWords Go.Proofs.YtcfhmbhlibhlnaaDoorW.PrintLast Go.Proofs.YtcfhmbhlibhlnaaDoorW.PrintMore Go.Proofs.YtcfhmbhlibhlnaaDoor.Mine
attribute [local go_sem] ext71 ext79 eqA61 eqA62
attribute [local go_sem] max2_int min2_int max_two min_two max_three min_three max_four min_four   -- for this text's walks alone
set_option linter.unusedVariables false
set_option linter.unusedSimpArgs false

/-! ### tumblerref02_Small: function 94 -/
def tumblerref02_Small.j0 : Nat → Bool → Bool → Int → Int → Bool → Option (Int × Bool)
 | 0, _, _, _, _, _ => none
 | k + 1, x1, x26, x1093000, x1093001, x1093002 => if x26 = true then (some (0, false)) else (if x1093001 = 9223372036854775808 then (some ((-9223372036854775808), true)) else (if x1 = true then (some (wrap64 (-(wrap64 (x1093001))), true)) else (some (wrap64 (x1093001), true))))
def tumblerref02_Small.f (k : Nat) (a0_0 : Int) (a0_1 : Int) (a0_2 : Bool) (a1 : Bool) : Option (Int × Bool) := if a0_2 = true then (tumblerref02_Small.j0 k a1 true a0_0 a0_1 a0_2) else (if a0_0 > 0 then (tumblerref02_Small.j0 k a1 true a0_0 a0_1 a0_2) else (if a0_1 > 9223372036854775808 then (tumblerref02_Small.j0 k a1 true a0_0 a0_1 a0_2) else (if a0_1 = 9223372036854775808 then (tumblerref02_Small.j0 k a1 (!a1) a0_0 a0_1 a0_2) else (tumblerref02_Small.j0 k a1 false a0_0 a0_1 a0_2))))
theorem tumblerref02_Small.mono_l : ∀ k, (∀ y0 y1 y2 y3 y4, LeO (tumblerref02_Small.j0 k y0 y1 y2 y3 y4) (tumblerref02_Small.j0 (k + 1) y0 y1 y2 y3 y4))
 | 0 => fun _ _ _ _ _ r h => by simp [tumblerref02_Small.j0] at h
 | k + 1 => by
  have ih0 := tumblerref02_Small.mono_l k
  · intro y0 y1 y2 y3 y4
    unfold tumblerref02_Small.j0
    repeat' first
    | (with_reducible exact ih0 _ _ _ _ _)
    | (with_reducible exact LeO.refl _)
    | (with_reducible exact LeO.none _)
    | (with_reducible refine LeO.ite ?_ ?_)
    | (with_reducible refine LeO.bind ?_ (fun _ => ?_))
    | exact ih0 _ _ _ _ _
    | exact LeO.none _
    | refine LeO.ite ?_ ?_
    | refine LeO.bind ?_ (fun _ => ?_)
theorem tumblerref02_Small.mono : ∀ a0 a1 a2 a3 k, LeO (tumblerref02_Small.f k a0 a1 a2 a3) (tumblerref02_Small.f (k + 1) a0 a1 a2 a3) := by
 intro a0 a1 a2 a3 k; have ih0 := tumblerref02_Small.mono_l k
 unfold tumblerref02_Small.f
 repeat' first
  | (with_reducible exact ih0 _ _ _ _ _)
  | (with_reducible exact LeO.refl _)
  | (with_reducible exact LeO.none _)
  | (with_reducible refine LeO.ite ?_ ?_)
  | (with_reducible refine LeO.bind ?_ (fun _ => ?_))
  | exact ih0 _ _ _ _ _
  | exact LeO.none _
  | refine LeO.ite ?_ ?_
  | refine LeO.bind ?_ (fun _ => ?_)
set_option maxHeartbeats 8000000 in
set_option maxRecDepth 100000 in
theorem tumblerref02_Small.calls (k : Nat) (a0_0 : Int) (a0_1 : Int) (a0_2 : Bool) (a1 : Bool) (r1 : Int) (r2 : Bool) (w : World) (h : tumblerref02_Small.f k a0_0 a0_1 a0_2 a1 = some (r1, r2)) :
 Calls Tryd.prog 94 #[.agg #[.int .u64 a0_0, .int .u64 a0_1, .bool a0_2], .bool a1] w fun e w' => e = .returned (.tuple #[.int .i64 r1, .bool r2]) ∧ Below w.heap.size w w' := by
 have hu93 := Tryd.underlying93; have HB := am (Below.refl w.heap.size w); have H : (if a0_2 = true then (tumblerref02_Small.j0 k a1 true a0_0 a0_1 a0_2) else (if a0_0 > 0 then (tumblerref02_Small.j0 k a1 true a0_0 a0_1 a0_2) else (if a0_1 > 9223372036854775808 then (tumblerref02_Small.j0 k a1 true a0_0 a0_1 a0_2) else (if a0_1 = 9223372036854775808 then (tumblerref02_Small.j0 k a1 (!a1) a0_0 a0_1 a0_2) else (tumblerref02_Small.j0 k a1 false a0_0 a0_1 a0_2))))) = some (r1, r2) := h; clear h; have HC3 := Aside0.mk H; clear H
 go_enter Tryd.func94, Tryd.ntmps94
 go_upto_region 1 with (first | ((with_reducible refine gate_dst (N := 2) rfl ?_); refine box_event (by rfl) (N := 2) (by rfl) (cs := #[.int .u64 a0_0, .int .u64 a0_1, .bool a0_2]) (t := 93) (by go_simp <;> rfl) ?_; intro gb1092 hg w4 hbox hb; have BK1092 := am (hbox); have GW1092 := gw w hg; replace HB := am (below_step bz hb); clear hb hbox hg))
 (try simp only [Act.put, List.setIfInBounds_toArray, List.set_cons_zero, List.set_cons_succ])
 go_cut [26] (fun v26 wc => ∃ (kq : Nat) (x26_2 : Bool), v26 = .bool x26_2 ∧ Aside0 (tumblerref02_Small.j0 kq a1 x26_2 a0_0 a0_1 a0_2 = some (r1, r2)) ∧ Aside0 (kq ≤ k) ∧ Aside0 (wc.heap[gb1092]? = some (.cells #[.int .u64 a0_0, .int .u64 a0_1, .bool a0_2] 93 (0, 0))) ∧ Aside0 (Below w.heap.size w wc))
 case first =>
  have H := HC3.out; clear HC3
  by_cases c5 : a0_2 = true
  · subst c5
    have H1 : (tumblerref02_Small.j0 k a1 true a0_0 a0_1 true) = some (r1, r2) := by rw [if_pos rfl] at H; exact H
    clear H; have H := H1; clear H1; have H' := Aside0.mk H; clear H; have hcz6_0 : w4.cell? ⟨gb1092, 0, none⟩ = some (.int .u64 a0_0) := bc BK1092 0; have hcz6_1 : w4.cell? ⟨gb1092, 1, none⟩ = some (.int .u64 a0_1) := bc BK1092 1; have hcz6_2 : w4.cell? ⟨gb1092, 2, none⟩ = some (.bool true) := bc BK1092 2; have hfz6_0 := blk_frozen BK1092.out 0; have hfz6_1 := blk_frozen BK1092.out 1; have hfz6_2 := blk_frozen BK1092.out 2
    go_wp2
    go_meet
    case rel => exact ⟨_, (true), rs, H', ⟨by first | omega | exact Nat.le_refl _⟩, kf, ⟨bz⟩⟩
  · replace c5 := Bool.eq_false_iff.mpr c5
    subst c5
    have H1 : (if a0_0 > 0 then (tumblerref02_Small.j0 k a1 true a0_0 a0_1 false) else (if a0_1 > 9223372036854775808 then (tumblerref02_Small.j0 k a1 true a0_0 a0_1 false) else (if a0_1 = 9223372036854775808 then (tumblerref02_Small.j0 k a1 (!a1) a0_0 a0_1 false) else (tumblerref02_Small.j0 k a1 false a0_0 a0_1 false)))) = some (r1, r2) := by rw [if_neg (show ¬ (false = true) by decide)] at H; exact H
    clear H; have H := H1; clear H1
    by_cases c7 : a0_0 > 0
    · rw [if_pos c7] at H
      have c7b0 : decide (0 < a0_0) = true := decide_eq_true c7; clear c7
      (first | rw [c7b0] | (simp only [i64_w, i32_w]; rw [c7b0]) | skip)
      have H' := Aside0.mk H; clear H; have hcz8_0 : w4.cell? ⟨gb1092, 0, none⟩ = some (.int .u64 a0_0) := bc BK1092 0; have hcz8_1 : w4.cell? ⟨gb1092, 1, none⟩ = some (.int .u64 a0_1) := bc BK1092 1; have hcz8_2 : w4.cell? ⟨gb1092, 2, none⟩ = some (.bool false) := bc BK1092 2; have hfz8_0 := blk_frozen BK1092.out 0; have hfz8_1 := blk_frozen BK1092.out 1; have hfz8_2 := blk_frozen BK1092.out 2
      go_wp2
      go_meet
      case rel => exact ⟨_, (true), rs, H', ⟨by first | omega | exact Nat.le_refl _⟩, kf, ⟨bz⟩⟩
    · rw [if_neg c7] at H
      have c7b0 : decide (0 < a0_0) = false := decide_eq_false c7; clear c7
      (first | rw [c7b0] | (simp only [i64_w, i32_w]; rw [c7b0]) | skip)
      by_cases c9 : a0_1 > 9223372036854775808
      · rw [if_pos c9] at H
        have c9b0 : decide (9223372036854775808 < a0_1) = true := decide_eq_true c9; clear c9; have H' := Aside0.mk H; clear H; have hcz10_0 : w4.cell? ⟨gb1092, 0, none⟩ = some (.int .u64 a0_0) := bc BK1092 0; have hcz10_1 : w4.cell? ⟨gb1092, 1, none⟩ = some (.int .u64 a0_1) := bc BK1092 1; have hcz10_2 : w4.cell? ⟨gb1092, 2, none⟩ = some (.bool false) := bc BK1092 2; have hfz10_0 := blk_frozen BK1092.out 0; have hfz10_1 := blk_frozen BK1092.out 1; have hfz10_2 := blk_frozen BK1092.out 2
        go_wp2
        go_meet
        case rel => exact ⟨_, (true), rs, H', ⟨by first | omega | exact Nat.le_refl _⟩, kf, ⟨bz⟩⟩
      · rw [if_neg c9] at H
        have c9b0 : decide (9223372036854775808 < a0_1) = false := decide_eq_false c9; clear c9
        by_cases c11 : a0_1 = 9223372036854775808
        · rw [if_pos c11] at H
          have c11b0 : (a0_1 == 9223372036854775808) = true := beq_iff_eq.mpr c11; have c11b1 : (a0_1 != 9223372036854775808) = false := bne_eq_false_iff_eq.mpr c11; clear c11; have H' := Aside0.mk H; clear H; have hcz12_0 : w4.cell? ⟨gb1092, 0, none⟩ = some (.int .u64 a0_0) := bc BK1092 0; have hcz12_1 : w4.cell? ⟨gb1092, 1, none⟩ = some (.int .u64 a0_1) := bc BK1092 1; have hcz12_2 : w4.cell? ⟨gb1092, 2, none⟩ = some (.bool false) := bc BK1092 2; have hfz12_0 := blk_frozen BK1092.out 0; have hfz12_1 := blk_frozen BK1092.out 1; have hfz12_2 := blk_frozen BK1092.out 2
          go_wp2
          go_meet
          case rel => exact ⟨_, (!a1), rs, H', ⟨by first | omega | exact Nat.le_refl _⟩, kf, ⟨bz⟩⟩
        · rw [if_neg c11] at H
          have c11b0 : (a0_1 == 9223372036854775808) = false := beq_eq_false_iff_ne.mpr c11; have c11b1 : (a0_1 != 9223372036854775808) = true := bne_iff_ne.mpr c11; have H' := Aside0.mk H; clear H; have hcz13_0 : w4.cell? ⟨gb1092, 0, none⟩ = some (.int .u64 a0_0) := bc BK1092 0; have hcz13_1 : w4.cell? ⟨gb1092, 1, none⟩ = some (.int .u64 a0_1) := bc BK1092 1; have hcz13_2 : w4.cell? ⟨gb1092, 2, none⟩ = some (.bool false) := bc BK1092 2; have hfz13_0 := blk_frozen BK1092.out 0; have hfz13_1 := blk_frozen BK1092.out 1; have hfz13_2 := blk_frozen BK1092.out 2
          go_wp2
          go_meet
          case rel => exact ⟨_, (false), rs, H', ⟨by first | omega | exact Nat.le_refl _⟩, kf, ⟨bz⟩⟩
 case rest =>
  clear HC3
  try clear c1
  try clear p2
  try clear c5
  try clear c7
  try clear c7b0
  try clear c9
  try clear c9b0
  try clear c11
  try clear c11b0
  try clear c11b1
  try clear hcz10_0
  try clear hcz10_1
  try clear hcz10_2
  try clear hcz12_0
  try clear hcz12_1
  try clear hcz12_2
  try clear hcz13_0
  try clear hcz13_1
  try clear hcz13_2
  try clear hcz6_0
  try clear hcz6_1
  try clear hcz6_2
  try clear hcz8_0
  try clear hcz8_1
  try clear hcz8_2
  try clear hfz10_0
  try clear hfz10_1
  try clear hfz10_2
  try clear hfz12_0
  try clear hfz12_1
  try clear hfz12_2
  try clear hfz13_0
  try clear hfz13_1
  try clear hfz13_2
  try clear hfz6_0
  try clear hfz6_1
  try clear hfz6_2
  try clear hfz8_0
  try clear hfz8_1
  try clear hfz8_2
  obtain ⟨kq, x26_2, rfl, HA, HJ2, BK1092, HB⟩ := hcut
  cases kq with
  | zero => exact absurd HA.out (by simp [tumblerref02_Small.j0])
  | succ kj2 =>
   have H := HA.out; clear HA
   simp only [tumblerref02_Small.j0] at H
   by_cases c14 : x26_2 = true
   · subst c14
     have H1 : (some (0, false)) = some (r1, r2) := by rw [if_pos rfl] at H; exact H
     clear H; have H := H1; clear H1
     simp only [Option.some.injEq, Prod.mk.injEq] at H
     obtain ⟨rfl, rfl⟩ := H
     go_wp2
     go_ret2
     exact ⟨rg, bz⟩
   · replace c14 := Bool.eq_false_iff.mpr c14
     subst c14
     have H1 : (if a0_1 = 9223372036854775808 then (some ((-9223372036854775808), true)) else (if a1 = true then (some (wrap64 (-(wrap64 (a0_1))), true)) else (some (wrap64 (a0_1), true)))) = some (r1, r2) := by rw [if_neg (show ¬ (false = true) by decide)] at H; exact H
     clear H; have H := H1; clear H1
     by_cases c15 : a0_1 = 9223372036854775808
     · rw [if_pos c15] at H
       have c15b0 : (a0_1 == 9223372036854775808) = true := beq_iff_eq.mpr c15; have c15b1 : (a0_1 != 9223372036854775808) = false := bne_eq_false_iff_eq.mpr c15; clear c15
       simp only [Option.some.injEq, Prod.mk.injEq] at H
       obtain ⟨rfl, rfl⟩ := H
       have hcz16_0 : wc.cell? ⟨gb1092, 0, none⟩ = some (.int .u64 a0_0) := bc BK1092 0; have hcz16_1 : wc.cell? ⟨gb1092, 1, none⟩ = some (.int .u64 a0_1) := bc BK1092 1; have hcz16_2 : wc.cell? ⟨gb1092, 2, none⟩ = some (.bool a0_2) := bc BK1092 2; have hfz16_0 := blk_frozen BK1092.out 0; have hfz16_1 := blk_frozen BK1092.out 1; have hfz16_2 := blk_frozen BK1092.out 2
       go_wp2
       go_ret2
       exact ⟨rg, bz⟩
     · rw [if_neg c15] at H
       have c15b0 : (a0_1 == 9223372036854775808) = false := beq_eq_false_iff_ne.mpr c15; have c15b1 : (a0_1 != 9223372036854775808) = true := bne_iff_ne.mpr c15
       by_cases c17 : a1 = true
       · subst c17
         have H1 : (some (wrap64 (-(wrap64 (a0_1))), true)) = some (r1, r2) := by rw [if_pos rfl] at H; exact H
         clear H; have H := H1; clear H1
         simp only [Option.some.injEq, Prod.mk.injEq] at H
         obtain ⟨rfl, rfl⟩ := H
         have hcz18_0 : wc.cell? ⟨gb1092, 0, none⟩ = some (.int .u64 a0_0) := bc BK1092 0; have hcz18_1 : wc.cell? ⟨gb1092, 1, none⟩ = some (.int .u64 a0_1) := bc BK1092 1; have hcz18_2 : wc.cell? ⟨gb1092, 2, none⟩ = some (.bool a0_2) := bc BK1092 2; have hfz18_0 := blk_frozen BK1092.out 0; have hfz18_1 := blk_frozen BK1092.out 1; have hfz18_2 := blk_frozen BK1092.out 2
         go_wp2
         go_ret2
         exact ⟨rg, bz⟩
       · replace c17 := Bool.eq_false_iff.mpr c17
         subst c17
         have H1 : (some (wrap64 (a0_1), true)) = some (r1, r2) := by rw [if_neg (show ¬ (false = true) by decide)] at H; exact H
         clear H; have H := H1; clear H1
         simp only [Option.some.injEq, Prod.mk.injEq] at H
         obtain ⟨rfl, rfl⟩ := H
         have hcz19_0 : wc.cell? ⟨gb1092, 0, none⟩ = some (.int .u64 a0_0) := bc BK1092 0; have hcz19_1 : wc.cell? ⟨gb1092, 1, none⟩ = some (.int .u64 a0_1) := bc BK1092 1; have hcz19_2 : wc.cell? ⟨gb1092, 2, none⟩ = some (.bool a0_2) := bc BK1092 2; have hfz19_0 := blk_frozen BK1092.out 0; have hfz19_1 := blk_frozen BK1092.out 1; have hfz19_2 := blk_frozen BK1092.out 2
         go_wp2
         go_ret2
         exact ⟨rg, bz⟩

end Go.Proofs.YtcfhmbhlibhlnaaDoor.P
