-- Printed by this session's own pp.py (wip/tool) out of the translation.
import Derived.Test.YtifhebempfjcmaaPx0
import Derived.Test.YtifhebempfjcmaaPxf19
import Derived.Test.YtifhebempfjcmaaPxf21
namespace Go.Proofs.Ytifhebempfjcmaa.P
open Go.RowKit Go.Proofs.YtifhebempfjcmaaW.PrintWords Go.Proofs.YtifhebempfjcmaaW.PrintLast Go.Proofs.YtifhebempfjcmaaW.PrintMore Go.Proofs.Ytifhebempfjcmaa.Mine
attribute [local go_sem] ext45 ext46
attribute [local go_sem] max2_int min2_int max_two min_two max_three min_three max_four min_four   -- for this text's walks alone
set_option linter.unusedVariables false
set_option linter.unusedSimpArgs false

/-! ### tumblerlaw02_MicroNear: function 7 -/
mutual
def tumblerlaw02_MicroNear.j0 : Nat → Int → Int → Int → Int → Bool → Option (Bool)
 | 0, _, _, _, _, _ => none
 | k + 1, x0, x1, x5, x6, x21 => if x21 = true then (if x6 = 1 then (some (x5 == 0)) else (some false)) else ((tumblerref02_Ten.f k (wrap64 (6 - x1))).bind fun t301 => (if x6 = 0 then (if (wrap64 (t301)) = 0 then (none) else (if (Int.tmod x5 (wrap64 (t301))) = 0 then (if x5 > 0 then (if x0 < 0 then (tumblerlaw02_MicroNear.j1 k x0 x5 (wrap64 (t301)) true) else (if x5 < 0 then (tumblerlaw02_MicroNear.j1 k x0 x5 (wrap64 (t301)) (decide (x0 > 0))) else (tumblerlaw02_MicroNear.j1 k x0 x5 (wrap64 (t301)) false))) else (if x5 < 0 then (tumblerlaw02_MicroNear.j1 k x0 x5 (wrap64 (t301)) (decide (x0 > 0))) else (tumblerlaw02_MicroNear.j1 k x0 x5 (wrap64 (t301)) false))) else (tumblerlaw02_MicroNear.j1 k x0 x5 (wrap64 (t301)) true))) else (if x6 = 10 then (if x5 = 0 then (if x0 > (wrap64 (9223372036854775807 - (wrap64 (t301)))) then (some true) else (some (decide (x0 < (wrap64 ((-9223372036854775808) + (wrap64 (t301)))))))) else (some false)) else (some false))))
def tumblerlaw02_MicroNear.j1 : Nat → Int → Int → Int → Bool → Option (Bool)
 | 0, _, _, _, _ => none
 | k + 1, x0, x5, x7, x71 => if x71 = true then (some false) else (if x5 < x0 then (if x0 < 0 then (if (IntKind.u64.wrap (2 * (IntKind.u64.wrap (-(IntKind.u64.wrap ((IntKind.u64.wrap (x5)) - (IntKind.u64.wrap (x0)))))))) < (IntKind.u64.wrap (x7)) then (some true) else (if (IntKind.u64.wrap (2 * (IntKind.u64.wrap (-(IntKind.u64.wrap ((IntKind.u64.wrap (x5)) - (IntKind.u64.wrap (x0)))))))) = (IntKind.u64.wrap (x7)) then (some true) else (if x7 = 1 then (some ((IntKind.u64.wrap (-(IntKind.u64.wrap ((IntKind.u64.wrap (x5)) - (IntKind.u64.wrap (x0)))))) == 0)) else (some false)))) else (if (IntKind.u64.wrap (2 * (IntKind.u64.wrap (-(IntKind.u64.wrap ((IntKind.u64.wrap (x5)) - (IntKind.u64.wrap (x0)))))))) < (IntKind.u64.wrap (x7)) then (some true) else (if (IntKind.u64.wrap (2 * (IntKind.u64.wrap (-(IntKind.u64.wrap ((IntKind.u64.wrap (x5)) - (IntKind.u64.wrap (x0)))))))) = (IntKind.u64.wrap (x7)) then (if x5 > x0 then (some true) else (if x7 = 1 then (some ((IntKind.u64.wrap (-(IntKind.u64.wrap ((IntKind.u64.wrap (x5)) - (IntKind.u64.wrap (x0)))))) == 0)) else (some false))) else (if x7 = 1 then (some ((IntKind.u64.wrap (-(IntKind.u64.wrap ((IntKind.u64.wrap (x5)) - (IntKind.u64.wrap (x0)))))) == 0)) else (some false))))) else (if x0 < 0 then (if (IntKind.u64.wrap (2 * (IntKind.u64.wrap ((IntKind.u64.wrap (x5)) - (IntKind.u64.wrap (x0)))))) < (IntKind.u64.wrap (x7)) then (some true) else (if (IntKind.u64.wrap (2 * (IntKind.u64.wrap ((IntKind.u64.wrap (x5)) - (IntKind.u64.wrap (x0)))))) = (IntKind.u64.wrap (x7)) then (if x7 = 1 then (some ((IntKind.u64.wrap ((IntKind.u64.wrap (x5)) - (IntKind.u64.wrap (x0)))) == 0)) else (some false)) else (if x7 = 1 then (some ((IntKind.u64.wrap ((IntKind.u64.wrap (x5)) - (IntKind.u64.wrap (x0)))) == 0)) else (some false)))) else (if (IntKind.u64.wrap (2 * (IntKind.u64.wrap ((IntKind.u64.wrap (x5)) - (IntKind.u64.wrap (x0)))))) < (IntKind.u64.wrap (x7)) then (some true) else (if (IntKind.u64.wrap (2 * (IntKind.u64.wrap ((IntKind.u64.wrap (x5)) - (IntKind.u64.wrap (x0)))))) = (IntKind.u64.wrap (x7)) then (if x5 > x0 then (some true) else (if x7 = 1 then (some ((IntKind.u64.wrap ((IntKind.u64.wrap (x5)) - (IntKind.u64.wrap (x0)))) == 0)) else (some false))) else (if x7 = 1 then (some ((IntKind.u64.wrap ((IntKind.u64.wrap (x5)) - (IntKind.u64.wrap (x0)))) == 0)) else (some false))))))
end
def tumblerlaw02_MicroNear.f (k : Nat) (a0 : Int) (a1 : Int) : Option (Bool) := (micro_Round.f k a0 a1).bind fun bt299 => (if a1 < 0 then (tumblerlaw02_MicroNear.j0 k a0 a1 bt299.1 bt299.2 true) else (tumblerlaw02_MicroNear.j0 k a0 a1 bt299.1 bt299.2 (decide (a1 > 6))))
theorem tumblerlaw02_MicroNear.mono_l : ∀ k, (∀ y0 y1 y2 y3 y4, LeO (tumblerlaw02_MicroNear.j0 k y0 y1 y2 y3 y4) (tumblerlaw02_MicroNear.j0 (k + 1) y0 y1 y2 y3 y4)) ∧ (∀ y0 y1 y2 y3, LeO (tumblerlaw02_MicroNear.j1 k y0 y1 y2 y3) (tumblerlaw02_MicroNear.j1 (k + 1) y0 y1 y2 y3))
 | 0 => ⟨fun _ _ _ _ _ r h => by simp [tumblerlaw02_MicroNear.j0] at h, fun _ _ _ _ r h => by simp [tumblerlaw02_MicroNear.j1] at h⟩
 | k + 1 => by
  obtain ⟨ih0, ih1⟩ := tumblerlaw02_MicroNear.mono_l k
  refine ⟨?_, ?_⟩
  · intro y0 y1 y2 y3 y4
    unfold tumblerlaw02_MicroNear.j0
    repeat' first
    | (with_reducible exact ih0 _ _ _ _ _)
    | (with_reducible exact ih1 _ _ _ _)
    | (with_reducible exact micro_Round.mono _ _ _)
    | (with_reducible exact tumblerref02_Ten.mono _ _)
    | (with_reducible exact LeO.refl _)
    | (with_reducible exact LeO.none _)
    | (with_reducible refine LeO.ite ?_ ?_)
    | (with_reducible refine LeO.bind ?_ (fun _ => ?_))
    | exact ih0 _ _ _ _ _
    | exact ih1 _ _ _ _
    | exact micro_Round.mono _ _ _
    | exact tumblerref02_Ten.mono _ _
    | exact LeO.none _
    | refine LeO.ite ?_ ?_
    | refine LeO.bind ?_ (fun _ => ?_)
  · intro y0 y1 y2 y3
    unfold tumblerlaw02_MicroNear.j1
    repeat' first
    | (with_reducible exact ih0 _ _ _ _ _)
    | (with_reducible exact ih1 _ _ _ _)
    | (with_reducible exact micro_Round.mono _ _ _)
    | (with_reducible exact tumblerref02_Ten.mono _ _)
    | (with_reducible exact LeO.refl _)
    | (with_reducible exact LeO.none _)
    | (with_reducible refine LeO.ite ?_ ?_)
    | (with_reducible refine LeO.bind ?_ (fun _ => ?_))
    | exact ih0 _ _ _ _ _
    | exact ih1 _ _ _ _
    | exact micro_Round.mono _ _ _
    | exact tumblerref02_Ten.mono _ _
    | exact LeO.none _
    | refine LeO.ite ?_ ?_
    | refine LeO.bind ?_ (fun _ => ?_)
theorem tumblerlaw02_MicroNear.mono : ∀ a0 a1 k, LeO (tumblerlaw02_MicroNear.f k a0 a1) (tumblerlaw02_MicroNear.f (k + 1) a0 a1) := by
 intro a0 a1 k
 obtain ⟨ih0, ih1⟩ := tumblerlaw02_MicroNear.mono_l k
 unfold tumblerlaw02_MicroNear.f
 repeat' first
  | (with_reducible exact ih0 _ _ _ _ _)
  | (with_reducible exact ih1 _ _ _ _)
  | (with_reducible exact micro_Round.mono _ _ _)
  | (with_reducible exact tumblerref02_Ten.mono _ _)
  | (with_reducible exact LeO.refl _)
  | (with_reducible exact LeO.none _)
  | (with_reducible refine LeO.ite ?_ ?_)
  | (with_reducible refine LeO.bind ?_ (fun _ => ?_))
  | exact ih0 _ _ _ _ _
  | exact ih1 _ _ _ _
  | exact micro_Round.mono _ _ _
  | exact tumblerref02_Ten.mono _ _
  | exact LeO.none _
  | refine LeO.ite ?_ ?_
  | refine LeO.bind ?_ (fun _ => ?_)
set_option maxHeartbeats 8000000 in
set_option maxRecDepth 100000 in
theorem tumblerlaw02_MicroNear.calls (k : Nat) (a0 : Int) (a1 : Int) (r : Bool) (w : World) (h : tumblerlaw02_MicroNear.f k a0 a1 = some r) :
 Calls Try.prog 7 #[.int .i64 a0, .int .i64 a1] w fun e w' => e = .returned (.bool r) ∧ Below w.heap.size w w' := by
 have HB := am (Below.refl w.heap.size w); have H : ((micro_Round.f k a0 a1).bind fun bt299 => (if a1 < 0 then (tumblerlaw02_MicroNear.j0 k a0 a1 bt299.1 bt299.2 true) else (tumblerlaw02_MicroNear.j0 k a0 a1 bt299.1 bt299.2 (decide (a1 > 6))))) = some r := h; clear h
 replace H := Option.bind_eq_some_iff.mp H
 obtain ⟨⟨t299, t300⟩, A30, H⟩ := H
 replace H : (if a1 < 0 then (tumblerlaw02_MicroNear.j0 k a0 a1 t299 t300 true) else (tumblerlaw02_MicroNear.j0 k a0 a1 t299 t300 (decide (a1 > 6)))) = some r := H
 have A3 := Aside0.mk A30; clear A30; have HC4 := Aside0.mk H; clear H
 go_enter Try.func7, Try.ntmps7
 go_upto_region 2 with (first | ((with_reducible refine gate_callee (f := 19) rfl ?_); refine goesL_ (some 13) rfl rfl Try.func19 (by kernel_rfl) rfl #[.int .i64 a0, .int .i64 a1] rfl (by (try simp only [List.map_toArray, List.map_cons, List.map_nil]); first | done | rfl | (simp only [List.length_drop, List.length_take]; rfl)) ?_; (with_reducible refine (micro_Round.calls k a0 a1 t299 t300 _ A3.out).mono ?_); rintro e w5 ⟨rfl, hb⟩; refine ⟨_, rfl, ?_⟩; have n0_ := am (below_step (by repeat (first | (with_reducible first | exact HB.out | apply dA | apply dB | apply dC) | exact HB.out)) hb); clear HB; have HB := n0_; clear n0_; (try clear hb); (try clear hb2); (try clear hk); (try clear hi)))
 (try simp only [Act.put, List.setIfInBounds_toArray, List.set_cons_zero, List.set_cons_succ])
 go_cut [21] (fun v21 wc => ∃ (kq : Nat) (x21_3 : Bool), v21 = .bool x21_3 ∧ Aside0 (tumblerlaw02_MicroNear.j0 kq a0 a1 t299 t300 x21_3 = some r) ∧ Aside0 (kq ≤ k) ∧ Aside0 (Below w.heap.size w wc))
 case first =>
  have H := HC4.out; clear HC4
  by_cases c6 : a1 < 0
  · rw [if_pos c6] at H
    have c6b0 : decide (a1 < 0) = true := decide_eq_true c6; clear c6
    (first | rw [c6b0] | (simp only [i64_w, i32_w]; rw [c6b0]) | skip)
    have H' := Aside0.mk H; clear H
    go_wp2
    go_meet
    case rel => exact ⟨_, (true), (by first | rfl | (simp; done) | (simp [*]; done)), H', ⟨by first | omega | exact Nat.le_refl _⟩, ⟨by repeat (first | (with_reducible first | exact HB.out | apply dA | apply dB | apply dC) | exact HB.out)⟩⟩
  · rw [if_neg c6] at H
    have c6b0 : decide (a1 < 0) = false := decide_eq_false c6; clear c6
    (first | rw [c6b0] | (simp only [i64_w, i32_w]; rw [c6b0]) | skip)
    have H' := Aside0.mk H; clear H
    go_wp2
    go_meet
    case rel => exact ⟨_, (decide (a1 > 6)), (by first | rfl | (simp; done) | (simp [*]; done)), H', ⟨by first | omega | exact Nat.le_refl _⟩, ⟨by repeat (first | (with_reducible first | exact HB.out | apply dA | apply dB | apply dC) | exact HB.out)⟩⟩
 case rest =>
  clear HC4
  try clear c1
  try clear p2
  try clear c6
  try clear c6b0
  obtain ⟨kq, x21_3, rfl, HA, HJ3, HB⟩ := hcut
  cases kq with
  | zero => exact absurd HA.out (by simp [tumblerlaw02_MicroNear.j0])
  | succ kj3 =>
   have H := HA.out; clear HA
   simp only [tumblerlaw02_MicroNear.j0] at H
   by_cases c7 : x21_3 = true
   · subst c7
     have H1 : (if t300 = 1 then (some (t299 == 0)) else (some false)) = some r := by rw [if_pos rfl] at H; exact H
     clear H; have H := H1; clear H1
     by_cases c8 : t300 = 1
     · rw [if_pos c8] at H
       have c8b0 : (t300 == 1) = true := beq_iff_eq.mpr c8; have c8b1 : (t300 != 1) = false := bne_eq_false_iff_eq.mpr c8; clear c8
       obtain rfl := Option.some.inj H
       go_wp2
       go_ret
       exact ⟨by first | rfl | (simp [errW_none, errW_some] <;> rfl) | (simp [*, errW_none, errW_some] <;> rfl), by repeat (first | (with_reducible first | exact HB.out | apply dA | apply dB | apply dC) | exact HB.out)⟩
     · rw [if_neg c8] at H
       have c8b0 : (t300 == 1) = false := beq_eq_false_iff_ne.mpr c8; have c8b1 : (t300 != 1) = true := bne_iff_ne.mpr c8
       obtain rfl := Option.some.inj H
       go_wp2
       go_ret
       exact ⟨by first | rfl | (simp [errW_none, errW_some] <;> rfl) | (simp [*, errW_none, errW_some] <;> rfl), by repeat (first | (with_reducible first | exact HB.out | apply dA | apply dB | apply dC) | exact HB.out)⟩
   · replace c7 := Bool.eq_false_iff.mpr c7
     subst c7
     have H1 : ((tumblerref02_Ten.f kj3 (wrap64 (6 - a1))).bind fun t301 => (if t300 = 0 then (if (wrap64 (t301)) = 0 then (none) else (if (Int.tmod t299 (wrap64 (t301))) = 0 then (if t299 > 0 then (if a0 < 0 then (tumblerlaw02_MicroNear.j1 kj3 a0 t299 (wrap64 (t301)) true) else (if t299 < 0 then (tumblerlaw02_MicroNear.j1 kj3 a0 t299 (wrap64 (t301)) (decide (a0 > 0))) else (tumblerlaw02_MicroNear.j1 kj3 a0 t299 (wrap64 (t301)) false))) else (if t299 < 0 then (tumblerlaw02_MicroNear.j1 kj3 a0 t299 (wrap64 (t301)) (decide (a0 > 0))) else (tumblerlaw02_MicroNear.j1 kj3 a0 t299 (wrap64 (t301)) false))) else (tumblerlaw02_MicroNear.j1 kj3 a0 t299 (wrap64 (t301)) true))) else (if t300 = 10 then (if t299 = 0 then (if a0 > (wrap64 (9223372036854775807 - (wrap64 (t301)))) then (some true) else (some (decide (a0 < (wrap64 ((-9223372036854775808) + (wrap64 (t301)))))))) else (some false)) else (some false)))) = some r := by rw [if_neg (show ¬ (false = true) by decide)] at H; exact H
     clear H; have H := H1; clear H1
     replace H := Option.bind_eq_some_iff.mp H
     obtain ⟨t301, A90, H⟩ := H
     replace H : (if t300 = 0 then (if (wrap64 (t301)) = 0 then (none) else (if (Int.tmod t299 (wrap64 (t301))) = 0 then (if t299 > 0 then (if a0 < 0 then (tumblerlaw02_MicroNear.j1 kj3 a0 t299 (wrap64 (t301)) true) else (if t299 < 0 then (tumblerlaw02_MicroNear.j1 kj3 a0 t299 (wrap64 (t301)) (decide (a0 > 0))) else (tumblerlaw02_MicroNear.j1 kj3 a0 t299 (wrap64 (t301)) false))) else (if t299 < 0 then (tumblerlaw02_MicroNear.j1 kj3 a0 t299 (wrap64 (t301)) (decide (a0 > 0))) else (tumblerlaw02_MicroNear.j1 kj3 a0 t299 (wrap64 (t301)) false))) else (tumblerlaw02_MicroNear.j1 kj3 a0 t299 (wrap64 (t301)) true))) else (if t300 = 10 then (if t299 = 0 then (if a0 > (wrap64 (9223372036854775807 - (wrap64 (t301)))) then (some true) else (some (decide (a0 < (wrap64 ((-9223372036854775808) + (wrap64 (t301)))))))) else (some false)) else (some false))) = some r := H
     have A9 := Aside0.mk A90; clear A90
     by_cases c10 : t300 = 0
     · rw [if_pos c10] at H
       have c10b0 : (t300 == 0) = true := beq_iff_eq.mpr c10; have c10b1 : (t300 != 0) = false := bne_eq_false_iff_eq.mpr c10; clear c10; have HC11 := Aside0.mk H; clear H
       go_upto_region 7 with (first | ((with_reducible refine gate_callee (f := 21) rfl ?_); refine goesL_ (some 30) rfl rfl Try.func21 (by kernel_rfl) rfl #[.int .i64 (wrap64 (6 - a1))] rfl (by (try simp only [List.map_toArray, List.map_cons, List.map_nil]); first | done | rfl | (simp only [List.length_drop, List.length_take]; rfl)) ?_; (with_reducible refine (tumblerref02_Ten.calls kj3 (wrap64 (6 - a1)) t301 _ A9.out).mono ?_); rintro e w' ⟨rfl, ⟨nd, rfl⟩⟩; refine ⟨_, rfl, ?_⟩))
       (try simp only [Act.put, List.setIfInBounds_toArray, List.set_cons_zero, List.set_cons_succ])
       go_cut [71] (fun v71 wc => ∃ (kq : Nat) (x71_10 : Bool), v71 = .bool x71_10 ∧ Aside0 (tumblerlaw02_MicroNear.j1 kq a0 t299 (wrap64 (t301)) x71_10 = some r) ∧ Aside0 (kq ≤ kj3) ∧ Aside0 (Below w.heap.size w wc))
       case first =>
        have H := HC11.out; clear HC11
        by_cases c12 : (wrap64 (t301)) = 0
        · rw [if_pos c12] at H
          exact absurd H (by simp)
        · rw [if_neg c12] at H
          have c12b0 : ((wrap64 (t301)) == 0) = false := beq_eq_false_iff_ne.mpr c12; have c12b1 : ((wrap64 (t301)) != 0) = true := bne_iff_ne.mpr c12
          (first | rw [c12b0] | (simp only [i64_w, i32_w]; rw [c12b0]) | skip)
          by_cases c13 : (Int.tmod t299 (wrap64 (t301))) = 0
          · rw [if_pos c13] at H
            have c13b0 : ((Int.tmod t299 (wrap64 (t301))) == 0) = true := beq_iff_eq.mpr c13; have c13b1 : ((Int.tmod t299 (wrap64 (t301))) != 0) = false := bne_eq_false_iff_eq.mpr c13; clear c13
            by_cases c14 : t299 > 0
            · rw [if_pos c14] at H
              have c14b0 : decide (0 < t299) = true := decide_eq_true c14; clear c14
              by_cases c15 : a0 < 0
              · rw [if_pos c15] at H
                have c15b0 : decide (a0 < 0) = true := decide_eq_true c15; clear c15; have H' := Aside0.mk H; clear H
                go_wp2
                go_meet
                case rel => exact ⟨_, (true), (by first | rfl | (simp; done) | (simp [*]; done)), H', ⟨by have := HJ3.out; first | omega | exact Nat.le_refl _⟩, ⟨by repeat (first | (with_reducible first | exact HB.out | apply dA | apply dB | apply dC) | exact HB.out)⟩⟩
              · rw [if_neg c15] at H
                have c15b0 : decide (a0 < 0) = false := decide_eq_false c15; clear c15
                by_cases c16 : t299 < 0
                · rw [if_pos c16] at H
                  have c16b0 : decide (t299 < 0) = true := decide_eq_true c16; clear c16; have H' := Aside0.mk H; clear H
                  go_wp2
                  go_meet
                  case rel => exact ⟨_, (decide (a0 > 0)), (by first | rfl | (simp; done) | (simp [*]; done)), H', ⟨by have := HJ3.out; first | omega | exact Nat.le_refl _⟩, ⟨by repeat (first | (with_reducible first | exact HB.out | apply dA | apply dB | apply dC) | exact HB.out)⟩⟩
                · rw [if_neg c16] at H
                  have c16b0 : decide (t299 < 0) = false := decide_eq_false c16; clear c16; have H' := Aside0.mk H; clear H
                  go_wp2
                  go_meet
                  case rel => exact ⟨_, (false), (by first | rfl | (simp; done) | (simp [*]; done)), H', ⟨by have := HJ3.out; first | omega | exact Nat.le_refl _⟩, ⟨by repeat (first | (with_reducible first | exact HB.out | apply dA | apply dB | apply dC) | exact HB.out)⟩⟩
            · rw [if_neg c14] at H
              have c14b0 : decide (0 < t299) = false := decide_eq_false c14; clear c14
              by_cases c17 : t299 < 0
              · rw [if_pos c17] at H
                have c17b0 : decide (t299 < 0) = true := decide_eq_true c17; clear c17; have H' := Aside0.mk H; clear H
                go_wp2
                go_meet
                case rel => exact ⟨_, (decide (a0 > 0)), (by first | rfl | (simp; done) | (simp [*]; done)), H', ⟨by have := HJ3.out; first | omega | exact Nat.le_refl _⟩, ⟨by repeat (first | (with_reducible first | exact HB.out | apply dA | apply dB | apply dC) | exact HB.out)⟩⟩
              · rw [if_neg c17] at H
                have c17b0 : decide (t299 < 0) = false := decide_eq_false c17; clear c17; have H' := Aside0.mk H; clear H
                go_wp2
                go_meet
                case rel => exact ⟨_, (false), (by first | rfl | (simp; done) | (simp [*]; done)), H', ⟨by have := HJ3.out; first | omega | exact Nat.le_refl _⟩, ⟨by repeat (first | (with_reducible first | exact HB.out | apply dA | apply dB | apply dC) | exact HB.out)⟩⟩
          · rw [if_neg c13] at H
            have c13b0 : ((Int.tmod t299 (wrap64 (t301))) == 0) = false := beq_eq_false_iff_ne.mpr c13; have c13b1 : ((Int.tmod t299 (wrap64 (t301))) != 0) = true := bne_iff_ne.mpr c13; have H' := Aside0.mk H; clear H
            go_wp2
            go_meet
            case rel => exact ⟨_, (true), (by first | rfl | (simp; done) | (simp [*]; done)), H', ⟨by have := HJ3.out; first | omega | exact Nat.le_refl _⟩, ⟨by repeat (first | (with_reducible first | exact HB.out | apply dA | apply dB | apply dC) | exact HB.out)⟩⟩
       case rest =>
        clear HC11
        try clear c1
        try clear c2
        try clear p2
        try clear c6
        try clear c6b0
        try clear p6
        try clear c7
        try clear c8
        try clear c8b0
        try clear c8b1
        try clear c10
        try clear c10b0
        try clear c10b1
        try clear c12
        try clear c12b0
        try clear c12b1
        try clear c13
        try clear c13b0
        try clear c13b1
        try clear c14
        try clear c14b0
        try clear c15
        try clear c15b0
        try clear c16
        try clear c16b0
        try clear c17
        try clear c17b0
        try clear p2
        obtain ⟨kq, x71_10, rfl, HA, HJ10, HB⟩ := hcut
        cases kq with
        | zero => exact absurd HA.out (by simp [tumblerlaw02_MicroNear.j1])
        | succ kj10 =>
         have H := HA.out; clear HA
         simp only [tumblerlaw02_MicroNear.j1] at H
         by_cases c18 : x71_10 = true
         · subst c18
           have H1 : (some false) = some r := by rw [if_pos rfl] at H; exact H
           clear H; have H := H1; clear H1
           obtain rfl := Option.some.inj H
           go_wp2
           go_ret
           exact ⟨by first | rfl | (simp [errW_none, errW_some] <;> rfl) | (simp [*, errW_none, errW_some] <;> rfl), by repeat (first | (with_reducible first | exact HB.out | apply dA | apply dB | apply dC) | exact HB.out)⟩
         · replace c18 := Bool.eq_false_iff.mpr c18
           subst c18
           have H1 : (if t299 < a0 then (if a0 < 0 then (if (IntKind.u64.wrap (2 * (IntKind.u64.wrap (-(IntKind.u64.wrap ((IntKind.u64.wrap (t299)) - (IntKind.u64.wrap (a0)))))))) < (IntKind.u64.wrap ((wrap64 (t301)))) then (some true) else (if (IntKind.u64.wrap (2 * (IntKind.u64.wrap (-(IntKind.u64.wrap ((IntKind.u64.wrap (t299)) - (IntKind.u64.wrap (a0)))))))) = (IntKind.u64.wrap ((wrap64 (t301)))) then (some true) else (if (wrap64 (t301)) = 1 then (some ((IntKind.u64.wrap (-(IntKind.u64.wrap ((IntKind.u64.wrap (t299)) - (IntKind.u64.wrap (a0)))))) == 0)) else (some false)))) else (if (IntKind.u64.wrap (2 * (IntKind.u64.wrap (-(IntKind.u64.wrap ((IntKind.u64.wrap (t299)) - (IntKind.u64.wrap (a0)))))))) < (IntKind.u64.wrap ((wrap64 (t301)))) then (some true) else (if (IntKind.u64.wrap (2 * (IntKind.u64.wrap (-(IntKind.u64.wrap ((IntKind.u64.wrap (t299)) - (IntKind.u64.wrap (a0)))))))) = (IntKind.u64.wrap ((wrap64 (t301)))) then (if t299 > a0 then (some true) else (if (wrap64 (t301)) = 1 then (some ((IntKind.u64.wrap (-(IntKind.u64.wrap ((IntKind.u64.wrap (t299)) - (IntKind.u64.wrap (a0)))))) == 0)) else (some false))) else (if (wrap64 (t301)) = 1 then (some ((IntKind.u64.wrap (-(IntKind.u64.wrap ((IntKind.u64.wrap (t299)) - (IntKind.u64.wrap (a0)))))) == 0)) else (some false))))) else (if a0 < 0 then (if (IntKind.u64.wrap (2 * (IntKind.u64.wrap ((IntKind.u64.wrap (t299)) - (IntKind.u64.wrap (a0)))))) < (IntKind.u64.wrap ((wrap64 (t301)))) then (some true) else (if (IntKind.u64.wrap (2 * (IntKind.u64.wrap ((IntKind.u64.wrap (t299)) - (IntKind.u64.wrap (a0)))))) = (IntKind.u64.wrap ((wrap64 (t301)))) then (if (wrap64 (t301)) = 1 then (some ((IntKind.u64.wrap ((IntKind.u64.wrap (t299)) - (IntKind.u64.wrap (a0)))) == 0)) else (some false)) else (if (wrap64 (t301)) = 1 then (some ((IntKind.u64.wrap ((IntKind.u64.wrap (t299)) - (IntKind.u64.wrap (a0)))) == 0)) else (some false)))) else (if (IntKind.u64.wrap (2 * (IntKind.u64.wrap ((IntKind.u64.wrap (t299)) - (IntKind.u64.wrap (a0)))))) < (IntKind.u64.wrap ((wrap64 (t301)))) then (some true) else (if (IntKind.u64.wrap (2 * (IntKind.u64.wrap ((IntKind.u64.wrap (t299)) - (IntKind.u64.wrap (a0)))))) = (IntKind.u64.wrap ((wrap64 (t301)))) then (if t299 > a0 then (some true) else (if (wrap64 (t301)) = 1 then (some ((IntKind.u64.wrap ((IntKind.u64.wrap (t299)) - (IntKind.u64.wrap (a0)))) == 0)) else (some false))) else (if (wrap64 (t301)) = 1 then (some ((IntKind.u64.wrap ((IntKind.u64.wrap (t299)) - (IntKind.u64.wrap (a0)))) == 0)) else (some false)))))) = some r := by rw [if_neg (show ¬ (false = true) by decide)] at H; exact H
           clear H; have H := H1; clear H1
           by_cases c19 : t299 < a0
           · rw [if_pos c19] at H
             have c19b0 : decide (t299 < a0) = true := decide_eq_true c19; clear c19
             by_cases c20 : a0 < 0
             · rw [if_pos c20] at H
               have c20b0 : decide (a0 < 0) = true := decide_eq_true c20; clear c20
               by_cases c21 : (IntKind.u64.wrap (2 * (IntKind.u64.wrap (-(IntKind.u64.wrap ((IntKind.u64.wrap (t299)) - (IntKind.u64.wrap (a0)))))))) < (IntKind.u64.wrap ((wrap64 (t301))))
               · rw [if_pos c21] at H
                 have c21b0 : decide ((IntKind.u64.wrap (2 * (IntKind.u64.wrap (-(IntKind.u64.wrap ((IntKind.u64.wrap (t299)) - (IntKind.u64.wrap (a0)))))))) < (IntKind.u64.wrap ((wrap64 (t301))))) = true := decide_eq_true c21; clear c21
                 obtain rfl := Option.some.inj H
                 go_wp2
                 go_ret
                 exact ⟨by first | rfl | (simp [errW_none, errW_some] <;> rfl) | (simp [*, errW_none, errW_some] <;> rfl), by repeat (first | (with_reducible first | exact HB.out | apply dA | apply dB | apply dC) | exact HB.out)⟩
               · rw [if_neg c21] at H
                 have c21b0 : decide ((IntKind.u64.wrap (2 * (IntKind.u64.wrap (-(IntKind.u64.wrap ((IntKind.u64.wrap (t299)) - (IntKind.u64.wrap (a0)))))))) < (IntKind.u64.wrap ((wrap64 (t301))))) = false := decide_eq_false c21; clear c21
                 by_cases c22 : (IntKind.u64.wrap (2 * (IntKind.u64.wrap (-(IntKind.u64.wrap ((IntKind.u64.wrap (t299)) - (IntKind.u64.wrap (a0)))))))) = (IntKind.u64.wrap ((wrap64 (t301))))
                 · rw [if_pos c22] at H
                   have c22b0 : ((IntKind.u64.wrap (2 * (IntKind.u64.wrap (-(IntKind.u64.wrap ((IntKind.u64.wrap (t299)) - (IntKind.u64.wrap (a0)))))))) == (IntKind.u64.wrap ((wrap64 (t301))))) = true := beq_iff_eq.mpr c22; have c22b1 : ((IntKind.u64.wrap (2 * (IntKind.u64.wrap (-(IntKind.u64.wrap ((IntKind.u64.wrap (t299)) - (IntKind.u64.wrap (a0)))))))) != (IntKind.u64.wrap ((wrap64 (t301))))) = false := bne_eq_false_iff_eq.mpr c22; clear c22
                   obtain rfl := Option.some.inj H
                   go_wp2
                   go_ret
                   exact ⟨by first | rfl | (simp [errW_none, errW_some] <;> rfl) | (simp [*, errW_none, errW_some] <;> rfl), by repeat (first | (with_reducible first | exact HB.out | apply dA | apply dB | apply dC) | exact HB.out)⟩
                 · rw [if_neg c22] at H
                   have c22b0 : ((IntKind.u64.wrap (2 * (IntKind.u64.wrap (-(IntKind.u64.wrap ((IntKind.u64.wrap (t299)) - (IntKind.u64.wrap (a0)))))))) == (IntKind.u64.wrap ((wrap64 (t301))))) = false := beq_eq_false_iff_ne.mpr c22; have c22b1 : ((IntKind.u64.wrap (2 * (IntKind.u64.wrap (-(IntKind.u64.wrap ((IntKind.u64.wrap (t299)) - (IntKind.u64.wrap (a0)))))))) != (IntKind.u64.wrap ((wrap64 (t301))))) = true := bne_iff_ne.mpr c22
                   by_cases c23 : (wrap64 (t301)) = 1
                   · rw [if_pos c23] at H
                     have c23b0 : ((wrap64 (t301)) == 1) = true := beq_iff_eq.mpr c23; have c23b1 : ((wrap64 (t301)) != 1) = false := bne_eq_false_iff_eq.mpr c23; clear c23
                     obtain rfl := Option.some.inj H
                     go_wp2
                     go_ret
                     exact ⟨by first | rfl | (simp [errW_none, errW_some] <;> rfl) | (simp [*, errW_none, errW_some] <;> rfl), by repeat (first | (with_reducible first | exact HB.out | apply dA | apply dB | apply dC) | exact HB.out)⟩
                   · rw [if_neg c23] at H
                     have c23b0 : ((wrap64 (t301)) == 1) = false := beq_eq_false_iff_ne.mpr c23; have c23b1 : ((wrap64 (t301)) != 1) = true := bne_iff_ne.mpr c23
                     obtain rfl := Option.some.inj H
                     go_wp2
                     go_ret
                     exact ⟨by first | rfl | (simp [errW_none, errW_some] <;> rfl) | (simp [*, errW_none, errW_some] <;> rfl), by repeat (first | (with_reducible first | exact HB.out | apply dA | apply dB | apply dC) | exact HB.out)⟩
             · rw [if_neg c20] at H
               have c20b0 : decide (a0 < 0) = false := decide_eq_false c20; clear c20
               by_cases c24 : (IntKind.u64.wrap (2 * (IntKind.u64.wrap (-(IntKind.u64.wrap ((IntKind.u64.wrap (t299)) - (IntKind.u64.wrap (a0)))))))) < (IntKind.u64.wrap ((wrap64 (t301))))
               · rw [if_pos c24] at H
                 have c24b0 : decide ((IntKind.u64.wrap (2 * (IntKind.u64.wrap (-(IntKind.u64.wrap ((IntKind.u64.wrap (t299)) - (IntKind.u64.wrap (a0)))))))) < (IntKind.u64.wrap ((wrap64 (t301))))) = true := decide_eq_true c24; clear c24
                 obtain rfl := Option.some.inj H
                 go_wp2
                 go_ret
                 exact ⟨by first | rfl | (simp [errW_none, errW_some] <;> rfl) | (simp [*, errW_none, errW_some] <;> rfl), by repeat (first | (with_reducible first | exact HB.out | apply dA | apply dB | apply dC) | exact HB.out)⟩
               · rw [if_neg c24] at H
                 have c24b0 : decide ((IntKind.u64.wrap (2 * (IntKind.u64.wrap (-(IntKind.u64.wrap ((IntKind.u64.wrap (t299)) - (IntKind.u64.wrap (a0)))))))) < (IntKind.u64.wrap ((wrap64 (t301))))) = false := decide_eq_false c24; clear c24
                 by_cases c25 : (IntKind.u64.wrap (2 * (IntKind.u64.wrap (-(IntKind.u64.wrap ((IntKind.u64.wrap (t299)) - (IntKind.u64.wrap (a0)))))))) = (IntKind.u64.wrap ((wrap64 (t301))))
                 · rw [if_pos c25] at H
                   have c25b0 : ((IntKind.u64.wrap (2 * (IntKind.u64.wrap (-(IntKind.u64.wrap ((IntKind.u64.wrap (t299)) - (IntKind.u64.wrap (a0)))))))) == (IntKind.u64.wrap ((wrap64 (t301))))) = true := beq_iff_eq.mpr c25; have c25b1 : ((IntKind.u64.wrap (2 * (IntKind.u64.wrap (-(IntKind.u64.wrap ((IntKind.u64.wrap (t299)) - (IntKind.u64.wrap (a0)))))))) != (IntKind.u64.wrap ((wrap64 (t301))))) = false := bne_eq_false_iff_eq.mpr c25; clear c25
                   by_cases c26 : t299 > a0
                   · rw [if_pos c26] at H
                     have c26b0 : decide (a0 < t299) = true := decide_eq_true c26; clear c26
                     obtain rfl := Option.some.inj H
                     go_wp2
                     go_ret
                     exact ⟨by first | rfl | (simp [errW_none, errW_some] <;> rfl) | (simp [*, errW_none, errW_some] <;> rfl), by repeat (first | (with_reducible first | exact HB.out | apply dA | apply dB | apply dC) | exact HB.out)⟩
                   · rw [if_neg c26] at H
                     have c26b0 : decide (a0 < t299) = false := decide_eq_false c26; clear c26
                     by_cases c27 : (wrap64 (t301)) = 1
                     · rw [if_pos c27] at H
                       have c27b0 : ((wrap64 (t301)) == 1) = true := beq_iff_eq.mpr c27; have c27b1 : ((wrap64 (t301)) != 1) = false := bne_eq_false_iff_eq.mpr c27; clear c27
                       obtain rfl := Option.some.inj H
                       go_wp2
                       go_ret
                       exact ⟨by first | rfl | (simp [errW_none, errW_some] <;> rfl) | (simp [*, errW_none, errW_some] <;> rfl), by repeat (first | (with_reducible first | exact HB.out | apply dA | apply dB | apply dC) | exact HB.out)⟩
                     · rw [if_neg c27] at H
                       have c27b0 : ((wrap64 (t301)) == 1) = false := beq_eq_false_iff_ne.mpr c27; have c27b1 : ((wrap64 (t301)) != 1) = true := bne_iff_ne.mpr c27
                       obtain rfl := Option.some.inj H
                       go_wp2
                       go_ret
                       exact ⟨by first | rfl | (simp [errW_none, errW_some] <;> rfl) | (simp [*, errW_none, errW_some] <;> rfl), by repeat (first | (with_reducible first | exact HB.out | apply dA | apply dB | apply dC) | exact HB.out)⟩
                 · rw [if_neg c25] at H
                   have c25b0 : ((IntKind.u64.wrap (2 * (IntKind.u64.wrap (-(IntKind.u64.wrap ((IntKind.u64.wrap (t299)) - (IntKind.u64.wrap (a0)))))))) == (IntKind.u64.wrap ((wrap64 (t301))))) = false := beq_eq_false_iff_ne.mpr c25; have c25b1 : ((IntKind.u64.wrap (2 * (IntKind.u64.wrap (-(IntKind.u64.wrap ((IntKind.u64.wrap (t299)) - (IntKind.u64.wrap (a0)))))))) != (IntKind.u64.wrap ((wrap64 (t301))))) = true := bne_iff_ne.mpr c25
                   by_cases c28 : (wrap64 (t301)) = 1
                   · rw [if_pos c28] at H
                     have c28b0 : ((wrap64 (t301)) == 1) = true := beq_iff_eq.mpr c28; have c28b1 : ((wrap64 (t301)) != 1) = false := bne_eq_false_iff_eq.mpr c28; clear c28
                     obtain rfl := Option.some.inj H
                     go_wp2
                     go_ret
                     exact ⟨by first | rfl | (simp [errW_none, errW_some] <;> rfl) | (simp [*, errW_none, errW_some] <;> rfl), by repeat (first | (with_reducible first | exact HB.out | apply dA | apply dB | apply dC) | exact HB.out)⟩
                   · rw [if_neg c28] at H
                     have c28b0 : ((wrap64 (t301)) == 1) = false := beq_eq_false_iff_ne.mpr c28; have c28b1 : ((wrap64 (t301)) != 1) = true := bne_iff_ne.mpr c28
                     obtain rfl := Option.some.inj H
                     go_wp2
                     go_ret
                     exact ⟨by first | rfl | (simp [errW_none, errW_some] <;> rfl) | (simp [*, errW_none, errW_some] <;> rfl), by repeat (first | (with_reducible first | exact HB.out | apply dA | apply dB | apply dC) | exact HB.out)⟩
           · rw [if_neg c19] at H
             have c19b0 : decide (t299 < a0) = false := decide_eq_false c19; clear c19
             by_cases c29 : a0 < 0
             · rw [if_pos c29] at H
               have c29b0 : decide (a0 < 0) = true := decide_eq_true c29; clear c29
               by_cases c30 : (IntKind.u64.wrap (2 * (IntKind.u64.wrap ((IntKind.u64.wrap (t299)) - (IntKind.u64.wrap (a0)))))) < (IntKind.u64.wrap ((wrap64 (t301))))
               · rw [if_pos c30] at H
                 have c30b0 : decide ((IntKind.u64.wrap (2 * (IntKind.u64.wrap ((IntKind.u64.wrap (t299)) - (IntKind.u64.wrap (a0)))))) < (IntKind.u64.wrap ((wrap64 (t301))))) = true := decide_eq_true c30; clear c30
                 obtain rfl := Option.some.inj H
                 go_wp2
                 go_ret
                 exact ⟨by first | rfl | (simp [errW_none, errW_some] <;> rfl) | (simp [*, errW_none, errW_some] <;> rfl), by repeat (first | (with_reducible first | exact HB.out | apply dA | apply dB | apply dC) | exact HB.out)⟩
               · rw [if_neg c30] at H
                 have c30b0 : decide ((IntKind.u64.wrap (2 * (IntKind.u64.wrap ((IntKind.u64.wrap (t299)) - (IntKind.u64.wrap (a0)))))) < (IntKind.u64.wrap ((wrap64 (t301))))) = false := decide_eq_false c30; clear c30
                 by_cases c31 : (IntKind.u64.wrap (2 * (IntKind.u64.wrap ((IntKind.u64.wrap (t299)) - (IntKind.u64.wrap (a0)))))) = (IntKind.u64.wrap ((wrap64 (t301))))
                 · rw [if_pos c31] at H
                   have c31b0 : ((IntKind.u64.wrap (2 * (IntKind.u64.wrap ((IntKind.u64.wrap (t299)) - (IntKind.u64.wrap (a0)))))) == (IntKind.u64.wrap ((wrap64 (t301))))) = true := beq_iff_eq.mpr c31; have c31b1 : ((IntKind.u64.wrap (2 * (IntKind.u64.wrap ((IntKind.u64.wrap (t299)) - (IntKind.u64.wrap (a0)))))) != (IntKind.u64.wrap ((wrap64 (t301))))) = false := bne_eq_false_iff_eq.mpr c31; clear c31
                   by_cases c32 : (wrap64 (t301)) = 1
                   · rw [if_pos c32] at H
                     have c32b0 : ((wrap64 (t301)) == 1) = true := beq_iff_eq.mpr c32; have c32b1 : ((wrap64 (t301)) != 1) = false := bne_eq_false_iff_eq.mpr c32; clear c32
                     obtain rfl := Option.some.inj H
                     go_wp2
                     go_ret
                     exact ⟨by first | rfl | (simp [errW_none, errW_some] <;> rfl) | (simp [*, errW_none, errW_some] <;> rfl), by repeat (first | (with_reducible first | exact HB.out | apply dA | apply dB | apply dC) | exact HB.out)⟩
                   · rw [if_neg c32] at H
                     have c32b0 : ((wrap64 (t301)) == 1) = false := beq_eq_false_iff_ne.mpr c32; have c32b1 : ((wrap64 (t301)) != 1) = true := bne_iff_ne.mpr c32
                     obtain rfl := Option.some.inj H
                     go_wp2
                     go_ret
                     exact ⟨by first | rfl | (simp [errW_none, errW_some] <;> rfl) | (simp [*, errW_none, errW_some] <;> rfl), by repeat (first | (with_reducible first | exact HB.out | apply dA | apply dB | apply dC) | exact HB.out)⟩
                 · rw [if_neg c31] at H
                   have c31b0 : ((IntKind.u64.wrap (2 * (IntKind.u64.wrap ((IntKind.u64.wrap (t299)) - (IntKind.u64.wrap (a0)))))) == (IntKind.u64.wrap ((wrap64 (t301))))) = false := beq_eq_false_iff_ne.mpr c31; have c31b1 : ((IntKind.u64.wrap (2 * (IntKind.u64.wrap ((IntKind.u64.wrap (t299)) - (IntKind.u64.wrap (a0)))))) != (IntKind.u64.wrap ((wrap64 (t301))))) = true := bne_iff_ne.mpr c31
                   by_cases c33 : (wrap64 (t301)) = 1
                   · rw [if_pos c33] at H
                     have c33b0 : ((wrap64 (t301)) == 1) = true := beq_iff_eq.mpr c33; have c33b1 : ((wrap64 (t301)) != 1) = false := bne_eq_false_iff_eq.mpr c33; clear c33
                     obtain rfl := Option.some.inj H
                     go_wp2
                     go_ret
                     exact ⟨by first | rfl | (simp [errW_none, errW_some] <;> rfl) | (simp [*, errW_none, errW_some] <;> rfl), by repeat (first | (with_reducible first | exact HB.out | apply dA | apply dB | apply dC) | exact HB.out)⟩
                   · rw [if_neg c33] at H
                     have c33b0 : ((wrap64 (t301)) == 1) = false := beq_eq_false_iff_ne.mpr c33; have c33b1 : ((wrap64 (t301)) != 1) = true := bne_iff_ne.mpr c33
                     obtain rfl := Option.some.inj H
                     go_wp2
                     go_ret
                     exact ⟨by first | rfl | (simp [errW_none, errW_some] <;> rfl) | (simp [*, errW_none, errW_some] <;> rfl), by repeat (first | (with_reducible first | exact HB.out | apply dA | apply dB | apply dC) | exact HB.out)⟩
             · rw [if_neg c29] at H
               have c29b0 : decide (a0 < 0) = false := decide_eq_false c29; clear c29
               by_cases c34 : (IntKind.u64.wrap (2 * (IntKind.u64.wrap ((IntKind.u64.wrap (t299)) - (IntKind.u64.wrap (a0)))))) < (IntKind.u64.wrap ((wrap64 (t301))))
               · rw [if_pos c34] at H
                 have c34b0 : decide ((IntKind.u64.wrap (2 * (IntKind.u64.wrap ((IntKind.u64.wrap (t299)) - (IntKind.u64.wrap (a0)))))) < (IntKind.u64.wrap ((wrap64 (t301))))) = true := decide_eq_true c34; clear c34
                 obtain rfl := Option.some.inj H
                 go_wp2
                 go_ret
                 exact ⟨by first | rfl | (simp [errW_none, errW_some] <;> rfl) | (simp [*, errW_none, errW_some] <;> rfl), by repeat (first | (with_reducible first | exact HB.out | apply dA | apply dB | apply dC) | exact HB.out)⟩
               · rw [if_neg c34] at H
                 have c34b0 : decide ((IntKind.u64.wrap (2 * (IntKind.u64.wrap ((IntKind.u64.wrap (t299)) - (IntKind.u64.wrap (a0)))))) < (IntKind.u64.wrap ((wrap64 (t301))))) = false := decide_eq_false c34; clear c34
                 by_cases c35 : (IntKind.u64.wrap (2 * (IntKind.u64.wrap ((IntKind.u64.wrap (t299)) - (IntKind.u64.wrap (a0)))))) = (IntKind.u64.wrap ((wrap64 (t301))))
                 · rw [if_pos c35] at H
                   have c35b0 : ((IntKind.u64.wrap (2 * (IntKind.u64.wrap ((IntKind.u64.wrap (t299)) - (IntKind.u64.wrap (a0)))))) == (IntKind.u64.wrap ((wrap64 (t301))))) = true := beq_iff_eq.mpr c35; have c35b1 : ((IntKind.u64.wrap (2 * (IntKind.u64.wrap ((IntKind.u64.wrap (t299)) - (IntKind.u64.wrap (a0)))))) != (IntKind.u64.wrap ((wrap64 (t301))))) = false := bne_eq_false_iff_eq.mpr c35; clear c35
                   by_cases c36 : t299 > a0
                   · rw [if_pos c36] at H
                     have c36b0 : decide (a0 < t299) = true := decide_eq_true c36; clear c36
                     obtain rfl := Option.some.inj H
                     go_wp2
                     go_ret
                     exact ⟨by first | rfl | (simp [errW_none, errW_some] <;> rfl) | (simp [*, errW_none, errW_some] <;> rfl), by repeat (first | (with_reducible first | exact HB.out | apply dA | apply dB | apply dC) | exact HB.out)⟩
                   · rw [if_neg c36] at H
                     have c36b0 : decide (a0 < t299) = false := decide_eq_false c36; clear c36
                     by_cases c37 : (wrap64 (t301)) = 1
                     · rw [if_pos c37] at H
                       have c37b0 : ((wrap64 (t301)) == 1) = true := beq_iff_eq.mpr c37; have c37b1 : ((wrap64 (t301)) != 1) = false := bne_eq_false_iff_eq.mpr c37; clear c37
                       obtain rfl := Option.some.inj H
                       go_wp2
                       go_ret
                       exact ⟨by first | rfl | (simp [errW_none, errW_some] <;> rfl) | (simp [*, errW_none, errW_some] <;> rfl), by repeat (first | (with_reducible first | exact HB.out | apply dA | apply dB | apply dC) | exact HB.out)⟩
                     · rw [if_neg c37] at H
                       have c37b0 : ((wrap64 (t301)) == 1) = false := beq_eq_false_iff_ne.mpr c37; have c37b1 : ((wrap64 (t301)) != 1) = true := bne_iff_ne.mpr c37
                       obtain rfl := Option.some.inj H
                       go_wp2
                       go_ret
                       exact ⟨by first | rfl | (simp [errW_none, errW_some] <;> rfl) | (simp [*, errW_none, errW_some] <;> rfl), by repeat (first | (with_reducible first | exact HB.out | apply dA | apply dB | apply dC) | exact HB.out)⟩
                 · rw [if_neg c35] at H
                   have c35b0 : ((IntKind.u64.wrap (2 * (IntKind.u64.wrap ((IntKind.u64.wrap (t299)) - (IntKind.u64.wrap (a0)))))) == (IntKind.u64.wrap ((wrap64 (t301))))) = false := beq_eq_false_iff_ne.mpr c35; have c35b1 : ((IntKind.u64.wrap (2 * (IntKind.u64.wrap ((IntKind.u64.wrap (t299)) - (IntKind.u64.wrap (a0)))))) != (IntKind.u64.wrap ((wrap64 (t301))))) = true := bne_iff_ne.mpr c35
                   by_cases c38 : (wrap64 (t301)) = 1
                   · rw [if_pos c38] at H
                     have c38b0 : ((wrap64 (t301)) == 1) = true := beq_iff_eq.mpr c38; have c38b1 : ((wrap64 (t301)) != 1) = false := bne_eq_false_iff_eq.mpr c38; clear c38
                     obtain rfl := Option.some.inj H
                     go_wp2
                     go_ret
                     exact ⟨by first | rfl | (simp [errW_none, errW_some] <;> rfl) | (simp [*, errW_none, errW_some] <;> rfl), by repeat (first | (with_reducible first | exact HB.out | apply dA | apply dB | apply dC) | exact HB.out)⟩
                   · rw [if_neg c38] at H
                     have c38b0 : ((wrap64 (t301)) == 1) = false := beq_eq_false_iff_ne.mpr c38; have c38b1 : ((wrap64 (t301)) != 1) = true := bne_iff_ne.mpr c38
                     obtain rfl := Option.some.inj H
                     go_wp2
                     go_ret
                     exact ⟨by first | rfl | (simp [errW_none, errW_some] <;> rfl) | (simp [*, errW_none, errW_some] <;> rfl), by repeat (first | (with_reducible first | exact HB.out | apply dA | apply dB | apply dC) | exact HB.out)⟩
     · rw [if_neg c10] at H
       have c10b0 : (t300 == 0) = false := beq_eq_false_iff_ne.mpr c10; have c10b1 : (t300 != 0) = true := bne_iff_ne.mpr c10
       by_cases c39 : t300 = 10
       · rw [if_pos c39] at H
         have c39b0 : (t300 == 10) = true := beq_iff_eq.mpr c39; have c39b1 : (t300 != 10) = false := bne_eq_false_iff_eq.mpr c39; clear c39
         by_cases c40 : t299 = 0
         · rw [if_pos c40] at H
           have c40b0 : (t299 == 0) = true := beq_iff_eq.mpr c40; have c40b1 : (t299 != 0) = false := bne_eq_false_iff_eq.mpr c40; clear c40
           by_cases c41 : a0 > (wrap64 (9223372036854775807 - (wrap64 (t301))))
           · rw [if_pos c41] at H
             have c41b0 : decide ((wrap64 (9223372036854775807 - (wrap64 (t301)))) < a0) = true := decide_eq_true c41; clear c41
             obtain rfl := Option.some.inj H
             go_wp2_with (first | ((with_reducible refine gate_callee (f := 21) rfl ?_); refine goesL_ (some 30) rfl rfl Try.func21 (by kernel_rfl) rfl #[.int .i64 (wrap64 (6 - a1))] rfl (by (try simp only [List.map_toArray, List.map_cons, List.map_nil]); first | done | rfl | (simp only [List.length_drop, List.length_take]; rfl)) ?_; (with_reducible refine (tumblerref02_Ten.calls kj3 (wrap64 (6 - a1)) t301 _ A9.out).mono ?_); rintro e w' ⟨rfl, ⟨nd, rfl⟩⟩; refine ⟨_, rfl, ?_⟩))
             go_ret
             exact ⟨by first | rfl | (simp [errW_none, errW_some] <;> rfl) | (simp [*, errW_none, errW_some] <;> rfl), by repeat (first | (with_reducible first | exact HB.out | apply dA | apply dB | apply dC) | exact HB.out)⟩
           · rw [if_neg c41] at H
             have c41b0 : decide ((wrap64 (9223372036854775807 - (wrap64 (t301)))) < a0) = false := decide_eq_false c41; clear c41
             obtain rfl := Option.some.inj H
             go_wp2_with (first | ((with_reducible refine gate_callee (f := 21) rfl ?_); refine goesL_ (some 30) rfl rfl Try.func21 (by kernel_rfl) rfl #[.int .i64 (wrap64 (6 - a1))] rfl (by (try simp only [List.map_toArray, List.map_cons, List.map_nil]); first | done | rfl | (simp only [List.length_drop, List.length_take]; rfl)) ?_; (with_reducible refine (tumblerref02_Ten.calls kj3 (wrap64 (6 - a1)) t301 _ A9.out).mono ?_); rintro e w' ⟨rfl, ⟨nd, rfl⟩⟩; refine ⟨_, rfl, ?_⟩))
             go_ret
             exact ⟨by first | rfl | (simp [errW_none, errW_some] <;> rfl) | (simp [*, errW_none, errW_some] <;> rfl), by repeat (first | (with_reducible first | exact HB.out | apply dA | apply dB | apply dC) | exact HB.out)⟩
         · rw [if_neg c40] at H
           have c40b0 : (t299 == 0) = false := beq_eq_false_iff_ne.mpr c40; have c40b1 : (t299 != 0) = true := bne_iff_ne.mpr c40
           obtain rfl := Option.some.inj H
           go_wp2_with (first | ((with_reducible refine gate_callee (f := 21) rfl ?_); refine goesL_ (some 30) rfl rfl Try.func21 (by kernel_rfl) rfl #[.int .i64 (wrap64 (6 - a1))] rfl (by (try simp only [List.map_toArray, List.map_cons, List.map_nil]); first | done | rfl | (simp only [List.length_drop, List.length_take]; rfl)) ?_; (with_reducible refine (tumblerref02_Ten.calls kj3 (wrap64 (6 - a1)) t301 _ A9.out).mono ?_); rintro e w' ⟨rfl, ⟨nd, rfl⟩⟩; refine ⟨_, rfl, ?_⟩))
           go_ret
           exact ⟨by first | rfl | (simp [errW_none, errW_some] <;> rfl) | (simp [*, errW_none, errW_some] <;> rfl), by repeat (first | (with_reducible first | exact HB.out | apply dA | apply dB | apply dC) | exact HB.out)⟩
       · rw [if_neg c39] at H
         have c39b0 : (t300 == 10) = false := beq_eq_false_iff_ne.mpr c39; have c39b1 : (t300 != 10) = true := bne_iff_ne.mpr c39
         obtain rfl := Option.some.inj H
         go_wp2_with (first | ((with_reducible refine gate_callee (f := 21) rfl ?_); refine goesL_ (some 30) rfl rfl Try.func21 (by kernel_rfl) rfl #[.int .i64 (wrap64 (6 - a1))] rfl (by (try simp only [List.map_toArray, List.map_cons, List.map_nil]); first | done | rfl | (simp only [List.length_drop, List.length_take]; rfl)) ?_; (with_reducible refine (tumblerref02_Ten.calls kj3 (wrap64 (6 - a1)) t301 _ A9.out).mono ?_); rintro e w' ⟨rfl, ⟨nd, rfl⟩⟩; refine ⟨_, rfl, ?_⟩))
         go_ret
         exact ⟨by first | rfl | (simp [errW_none, errW_some] <;> rfl) | (simp [*, errW_none, errW_some] <;> rfl), by repeat (first | (with_reducible first | exact HB.out | apply dA | apply dB | apply dC) | exact HB.out)⟩

/-- THE ONE PURE STATEMENT of tumblerlaw02_MicroNear: yours. -/
def tumblerlaw02_MicroNear.Pure : Prop := ∀ (a0 : Int) (a1 : Int), (Lit.int .i64 a0).wf = true → (Lit.int .i64 a1).wf = true → ∃ k, tumblerlaw02_MicroNear.f k a0 a1 = some true
theorem tumblerlaw02_MicroNear.walk (P : tumblerlaw02_MicroNear.Pure) (a0 : Int) (a1 : Int) (w : World) (w0 : (Lit.int .i64 a0).wf = true) (w1 : (Lit.int .i64 a1).wf = true) :
 Calls Try.prog 7 #[.int .i64 a0, .int .i64 a1] w fun e w' => e = .returned (.bool true) ∧ Below w.heap.size w w' := by
 obtain ⟨k, h⟩ := P a0 a1 w0 w1
 refine (tumblerlaw02_MicroNear.calls k a0 a1 true w h).mono ?_
 rintro e w' ⟨rfl, hd⟩
 exact ⟨rfl, hd⟩

end Go.Proofs.Ytifhebempfjcmaa.P
