-- Printed by this session's own pp.py (wip/tool) out of the translation.
import Derived.Test.YtcfhmbhlibhlnaaDoorPx0
namespace Go.Proofs.YtcfhmbhlibhlnaaDoor.P
open Go.RowKit Go.Proofs.YtcfhmbhlibhlnaaDoorW.PrintWords Go.Proofs.YtcfhmbhlibhlnaaDoorW.PrintLast Go.Proofs.YtcfhmbhlibhlnaaDoorW.PrintMore Go.Proofs.YtcfhmbhlibhlnaaDoor.Mine
attribute [local go_sem] ext71 ext79 eqA61 eqA62
attribute [local go_sem] max2_int min2_int max_two min_two max_three min_three max_four min_four   -- for this text's walks alone
set_option linter.unusedVariables false
set_option linter.unusedSimpArgs false

/-! ### tumblerref01_word: function 106 -/
def tumblerref01_word.l0 : Nat → List Int → Int → Int → Int → Option (Int)
 | 0, _, _, _, _ => none
 | k + 1, x0, x1, x5, x6 => if x6 < 4 then (if (wrap64 (x1 + x6)) < (x0.length : Int) then (if 0 ≤ (wrap64 (x1 + x6)) then (if 0 ≤ (IntKind.u64.wrap (16 * (IntKind.u64.wrap (x6)))) then (tumblerref01_word.l0 k x0 x1 (Go.bits .or .u64 x5 (shl .u64 (IntKind.u64.wrap (rd x0 (wrap64 (x1 + x6)))) (IntKind.u64.wrap (16 * (IntKind.u64.wrap (x6)))))) (wrap64 (x6 + 1))) else (none)) else (none)) else (tumblerref01_word.l0 k x0 x1 x5 (wrap64 (x6 + 1)))) else (some x5)
def tumblerref01_word.f (k : Nat) (l0 : List Int) (a1 : Int) : Option (Int) := tumblerref01_word.l0 k l0 a1 0 0
theorem tumblerref01_word.mono_l : ∀ k, (∀ y0 y1 y2 y3, LeO (tumblerref01_word.l0 k y0 y1 y2 y3) (tumblerref01_word.l0 (k + 1) y0 y1 y2 y3))
 | 0 => fun _ _ _ _ r h => by simp [tumblerref01_word.l0] at h
 | k + 1 => by
  have ih0 := tumblerref01_word.mono_l k
  · intro y0 y1 y2 y3
    unfold tumblerref01_word.l0
    repeat' first
    | (with_reducible exact ih0 _ _ _ _)
    | (with_reducible exact LeO.refl _)
    | (with_reducible exact LeO.none _)
    | (with_reducible refine LeO.ite ?_ ?_)
    | (with_reducible refine LeO.bind ?_ (fun _ => ?_))
    | exact ih0 _ _ _ _
    | exact LeO.none _
    | refine LeO.ite ?_ ?_
    | refine LeO.bind ?_ (fun _ => ?_)
theorem tumblerref01_word.mono : ∀ a0 a1 k, LeO (tumblerref01_word.f k a0 a1) (tumblerref01_word.f (k + 1) a0 a1) := by
 intro a0 a1 k; have ih0 := tumblerref01_word.mono_l k
 unfold tumblerref01_word.f
 repeat' first
  | (with_reducible exact ih0 _ _ _ _)
  | (with_reducible exact LeO.refl _)
  | (with_reducible exact LeO.none _)
  | (with_reducible refine LeO.ite ?_ ?_)
  | (with_reducible refine LeO.bind ?_ (fun _ => ?_))
  | exact ih0 _ _ _ _
  | exact LeO.none _
  | refine LeO.ite ?_ ?_
  | refine LeO.bind ?_ (fun _ => ?_)
set_option maxHeartbeats 8000000 in
set_option maxRecDepth 100000 in
theorem tumblerref01_word.calls (k : Nat) (A0 : Option Addr) (c0 : Nat) (l0 : List Int) (a1 : Int) (r : Int) (w : World) (hr0 : Kd.C (Kd.int .u32) w A0 l0.length l0) (hc0 : l0.length ≤ c0) (h : tumblerref01_word.f k l0 a1 = some r) :
 Calls Tryd.prog 106 #[.slice A0 l0.length c0, .int .i64 a1] w fun e w' => e = .returned (.int .u64 r) ∧ Drawn0 w w' := by
 have HR0 := Aside0.mk hr0; have HC0 := Aside0.mk hc0; clear hr0 hc0; have H : (tumblerref01_word.l0 k l0 a1 0 0) = some r := h; clear h; have H' := Aside0.mk H; clear H
 go_enter Tryd.func106, Tryd.ntmps106
 go_wp2
 go_loopg [5, 6] k (fun kq v5 v6 w' => ∃ (x5_1 : Int) (x6_1 : Int), v5 = .int .u64 x5_1 ∧ v6 = .int .i64 x6_1 ∧ Aside0 (tumblerref01_word.l0 kq l0 a1 x5_1 x6_1 = some r) ∧ Aside0 (kq ≤ k) ∧ Drawn0 w w')
 case atStart => exact ⟨(0), (0), (by first | rfl | (simp; done) | (simp [*]; done)), (by first | rfl | (simp; done) | (simp [*]; done)), H', ⟨Nat.le_refl _⟩, by repeat (first | exact Drawn0.refl _ | apply Drawn0.step)⟩
 case round =>
  clear H'
  try clear c1
  try clear p2
  obtain ⟨x5_1, x6_1, rfl, rfl, HA, HK1, ⟨m1, rfl⟩⟩ := hrel
  cases gk with
  | zero => exact absurd HA.out (by simp [tumblerref01_word.l0])
  | succ k1 =>
   have H := HA.out; clear HA
   simp only [tumblerref01_word.l0] at H
   by_cases c3 : x6_1 < 4
   · rw [if_pos c3] at H
     have c3b0 : decide (x6_1 < 4) = true := decide_eq_true c3; clear c3
     by_cases c4 : (wrap64 (a1 + x6_1)) < (l0.length : Int)
     · rw [if_pos c4] at H
       have c4b0 : decide ((wrap64 (a1 + x6_1)) < (l0.length : Int)) = true := decide_eq_true c4; clear c4
       obtain ⟨ji5, hji5⟩ : ∃ j_ : Int, (wrap64 (a1 + x6_1)) = j_ := ⟨_, rfl⟩
       replace H : (if 0 ≤ (ji5) then (if 0 ≤ (IntKind.u64.wrap (16 * (IntKind.u64.wrap (x6_1)))) then (tumblerref01_word.l0 k1 l0 a1 (Go.bits .or .u64 x5_1 (shl .u64 (IntKind.u64.wrap (rd l0 (ji5))) (IntKind.u64.wrap (16 * (IntKind.u64.wrap (x6_1)))))) (wrap64 (x6_1 + 1))) else (none)) else (none)) = some r := by first | (rw [hji5] at H; exact H) | (simp only [hji5] at H ⊢; exact H)
       (try rw [hji5] at c4b0); have hji5w : (IntKind.i64.wrap (a1 + x6_1)) = ji5 := (i64_w _).trans hji5
       by_cases c6 : 0 ≤ (ji5)
       · rw [if_pos c6] at H
         have c6b0 : decide (0 ≤ (ji5)) = true := decide_eq_true c6; clear c6
         obtain ⟨ji7, hji7⟩ : ∃ j_ : Int, (IntKind.u64.wrap (16 * (IntKind.u64.wrap (x6_1)))) = j_ := ⟨_, rfl⟩
         replace H : (if 0 ≤ (ji7) then (tumblerref01_word.l0 k1 l0 a1 (Go.bits .or .u64 x5_1 (shl .u64 (IntKind.u64.wrap (rd l0 (ji5))) (ji7))) (wrap64 (x6_1 + 1))) else (none)) = some r := by first | (rw [hji7] at H; exact H) | (simp only [hji7] at H ⊢; exact H)
         by_cases c8 : 0 ≤ (ji7)
         · rw [if_pos c8] at H
           have c8b0 := eq_true c8; have c8b1 : decide (0 ≤ (ji7)) = true := decide_eq_true c8; clear c8
           obtain ⟨ji9, hji9⟩ : ∃ j_ : Int, (shl .u64 (IntKind.u64.wrap (rd l0 (ji5))) (ji7)) = j_ := ⟨_, rfl⟩
           replace H : (tumblerref01_word.l0 k1 l0 a1 (Go.bits .or .u64 x5_1 (ji9)) (wrap64 (x6_1 + 1))) = some r := by first | (rw [hji9] at H; exact H) | (simp only [hji9] at H ⊢; exact H)
           have hji9_ : (IntKind.u64.wrap ((IntKind.u64.wrap (rd l0 (ji5))) * 2 ^ min (ji7).toNat 64)) = ji9 := hji9; have hji9z : (ji7) ≤ 64 → (IntKind.u64.wrap ((IntKind.u64.wrap (rd l0 (ji5))) * 2 ^ (ji7).toNat)) = ji9 := shl_small hji9; have H' := Aside0.mk H; clear H; have p183 : 0 ≤ ((ji5) : Int) := of_decide_eq_true (by first | (with_reducible assumption) | assumption); have q183 : (ji5) < (l0.length : Int) := of_decide_eq_true (by first | (with_reducible assumption) | assumption)
           obtain ⟨ad183, e183, hx183_0⟩ := Kd.at_int HR0.out (ji5) p183 q183
           cases e183
           replace p183 := eq_true p183
           replace q183 := eq_true q183
           go_wp2
           go_roundg k1
           case measure => have := HK1.out; omega
           case rel => exact ⟨(Go.bits .or .u64 x5_1 (ji9)), (wrap64 (x6_1 + 1)), (by first | rfl | (simp; done) | (simp only [← hji9] <;> (first | rfl | simp)) | (simp [*]; done)), (by first | rfl | (simp; done) | (simp [*]; done)), H', ⟨by have := HK1.out; omega⟩, by repeat (first | exact Drawn0.refl _ | apply Drawn0.step)⟩
         · rw [if_neg c8] at H
           exact absurd H (by simp)
       · rw [if_neg c6] at H
         exact absurd H (by simp)
     · rw [if_neg c4] at H
       have c4b0 : decide ((wrap64 (a1 + x6_1)) < (l0.length : Int)) = false := decide_eq_false c4; clear c4; have H' := Aside0.mk H; clear H
       go_wp2
       go_roundg k1
       case measure => have := HK1.out; omega
       case rel => exact ⟨(x5_1), (wrap64 (x6_1 + 1)), (by first | rfl | (simp; done) | (simp [*]; done)), (by first | rfl | (simp; done) | (simp [*]; done)), H', ⟨by have := HK1.out; omega⟩, by repeat (first | exact Drawn0.refl _ | apply Drawn0.step)⟩
   · rw [if_neg c3] at H
     have c3b0 : decide (x6_1 < 4) = false := decide_eq_false c3; clear c3
     obtain rfl := Option.some.inj H
     go_wp2
     go_ret
     exact ⟨by first | rfl | (simp; done) | (simp [*]; done), by repeat (first | exact Drawn0.refl _ | apply Drawn0.step)⟩

end Go.Proofs.YtcfhmbhlibhlnaaDoor.P
