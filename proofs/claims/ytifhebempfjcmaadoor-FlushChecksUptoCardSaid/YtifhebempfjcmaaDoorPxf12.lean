-- Printed by this session's own pp.py (wip/tool) out of the translation.
import Derived.Test.YtifhebempfjcmaaDoorPx0
import Derived.Test.YtifhebempfjcmaaDoorPxf21
import Derived.Test.YtifhebempfjcmaaDoorPxf22
namespace Go.Proofs.YtifhebempfjcmaaDoor.P
open Go.RowKit Go.Proofs.YtifhebempfjcmaaDoorW.PrintWords Go.Proofs.YtifhebempfjcmaaDoorW.PrintLast Go.Proofs.YtifhebempfjcmaaDoorW.PrintMore Go.Proofs.YtifhebempfjcmaaDoor.Mine
attribute [local go_sem] max2_int min2_int max_two min_two max_three min_three max_four min_four   -- for this text's walks alone
set_option linter.unusedVariables false
set_option linter.unusedSimpArgs false

/-! ### tumblerref03_Valid: function 12 -/
def tumblerref03_Valid.l0 : Nat → List ByteArray → Int → Option (Bool)
 | 0, _, _ => none
 | k + 1, x3, x4 => if x4 < (x3.length : Int) then (if 0 ≤ x4 then (if (rdOf ByteArray.empty x3 x4).toList = ([] : List UInt8) then (some false) else ((tumblerref03_Bytes.f k (rdOf ByteArray.empty x3 x4)).bind fun t126 => (if t126 = true then (tumblerref03_Valid.l0 k x3 (wrap64 (x4 + 1))) else (some false)))) else (none)) else (some (decide ((x3.length : Int) ≤ 16)))
def tumblerref03_Valid.f (k : Nat) (a0 : ByteArray) : Option (Bool) := if (a0.size : Int) > 200 then (some false) else ((tumblerref03_Cut.f k a0).bind fun t121 => (tumblerref03_Valid.l0 k t121 0))
theorem tumblerref03_Valid.mono_l : ∀ k, (∀ y0 y1, LeO (tumblerref03_Valid.l0 k y0 y1) (tumblerref03_Valid.l0 (k + 1) y0 y1))
 | 0 => fun _ _ r h => by simp [tumblerref03_Valid.l0] at h
 | k + 1 => by
  have ih0 := tumblerref03_Valid.mono_l k
  · intro y0 y1
    unfold tumblerref03_Valid.l0
    repeat' first
    | (with_reducible exact ih0 _ _)
    | (with_reducible exact tumblerref03_Bytes.mono _ _)
    | (with_reducible exact tumblerref03_Cut.mono _ _)
    | (with_reducible exact LeO.refl _)
    | (with_reducible exact LeO.none _)
    | (with_reducible refine LeO.ite ?_ ?_)
    | (with_reducible refine LeO.bind ?_ (fun _ => ?_))
    | exact ih0 _ _
    | exact tumblerref03_Bytes.mono _ _
    | exact tumblerref03_Cut.mono _ _
    | exact LeO.none _
    | refine LeO.ite ?_ ?_
    | refine LeO.bind ?_ (fun _ => ?_)
theorem tumblerref03_Valid.mono : ∀ a0 k, LeO (tumblerref03_Valid.f k a0) (tumblerref03_Valid.f (k + 1) a0) := by
 intro a0 k; have ih0 := tumblerref03_Valid.mono_l k
 unfold tumblerref03_Valid.f
 repeat' first
  | (with_reducible exact ih0 _ _)
  | (with_reducible exact tumblerref03_Bytes.mono _ _)
  | (with_reducible exact tumblerref03_Cut.mono _ _)
  | (with_reducible exact LeO.refl _)
  | (with_reducible exact LeO.none _)
  | (with_reducible refine LeO.ite ?_ ?_)
  | (with_reducible refine LeO.bind ?_ (fun _ => ?_))
  | exact ih0 _ _
  | exact tumblerref03_Bytes.mono _ _
  | exact tumblerref03_Cut.mono _ _
  | exact LeO.none _
  | refine LeO.ite ?_ ?_
  | refine LeO.bind ?_ (fun _ => ?_)
set_option maxHeartbeats 8000000 in
set_option maxRecDepth 100000 in
theorem tumblerref03_Valid.calls (k : Nat) (a0 : ByteArray) (r : Bool) (w : World) (h : tumblerref03_Valid.f k a0 = some r) :
 Calls Tryd.prog 12 #[.string a0] w fun e w' => e = .returned (.bool r) ∧ Below w.heap.size w w' := by
 have HB := am (Below.refl w.heap.size w); have H : (if (a0.size : Int) > 200 then (some false) else ((tumblerref03_Cut.f k a0).bind fun t121 => (tumblerref03_Valid.l0 k t121 0))) = some r := h; clear h
 by_cases c2 : (a0.size : Int) > 200
 · rw [if_pos c2] at H
   have c2b0 : decide (200 < (a0.size : Int)) = true := decide_eq_true c2; have c2b1 : decide (200 < a0.size) = true := decide_eq_true (by omega); clear c2
   obtain rfl := Option.some.inj H
   go_enter Tryd.func12, Tryd.ntmps12
   go_wp2
   go_ret
   exact ⟨by first | rfl | (simp [errW_none, errW_some] <;> rfl) | (simp [*, errW_none, errW_some] <;> rfl), by repeat (first | (with_reducible first | exact HB.out | apply dA | apply dB | apply dC) | exact HB.out)⟩
 · rw [if_neg c2] at H
   have c2b0 : decide (200 < (a0.size : Int)) = false := decide_eq_false c2; have c2b1 : decide (200 < a0.size) = false := decide_eq_false (by omega); clear c2
   replace H := Option.bind_eq_some_iff.mp H
   obtain ⟨t121, A30, H⟩ := H
   replace H : (tumblerref03_Valid.l0 k t121 0) = some r := H
   have A3 := Aside0.mk A30; clear A30; have H' := Aside0.mk H; clear H
   go_enter Tryd.func12, Tryd.ntmps12
   go_wp2_with (first | ((with_reducible refine gate_callee (f := 21) rfl ?_); refine goesL_ (some 9) rfl rfl Tryd.func21 (by kernel_rfl) rfl #[.string a0] rfl (by (try simp only [List.map_toArray, List.map_cons, List.map_nil]); first | done | rfl | (simp only [List.length_drop, List.length_take]; rfl)) ?_; (with_reducible refine (tumblerref03_Cut.calls k a0 t121 _ A3.out).mono ?_); rintro e w4 ⟨v122, rfl, ho0, hb⟩; refine ⟨_, rfl, ?_⟩; have n0_ := am (Kd.R_lower ho0 (below_size bz)); have n1_ := am (below_step bz hb); clear HB; have HO123 := n0_; have HB := n1_; clear n0_ n1_; (try clear hb); (try clear hb2); (try clear hk); (try clear hi); (try clear ho0)))
   go_loopg [4] k (fun kq v4 w' => ∃ (x4_1 : Int), v4 = .int .i64 x4_1 ∧ Aside0 (tumblerref03_Valid.l0 kq t121 x4_1 = some r) ∧ Aside0 (kq ≤ k) ∧ Aside0 (Kd.R Kd.string 9 w' w.heap.size (fun _ => True) v122 t121) ∧ Aside0 (Below w.heap.size w w'))
   case atStart => exact ⟨(0), (by first | rfl | (simp; done) | (simp [*]; done)), H', ⟨Nat.le_refl _⟩, ⟨by (with_reducible repeat (first | apply Kd.R_alloc | apply Kd.R_drewN | apply Kd.R_drew)); exact HO123.out⟩, ⟨by repeat (first | (with_reducible first | exact HB.out | apply dA | apply dB | apply dC) | exact HB.out)⟩⟩
   case round =>
    clear H'
    try clear c1
    try clear c2
    try clear c2b0
    try clear c2b1
    try clear p2
    obtain ⟨x4_1, rfl, HA, HK1, HO_3, HB⟩ := hrel
    cases gk with
    | zero => exact absurd HA.out (by simp [tumblerref03_Valid.l0])
    | succ k1 =>
     have H := HA.out; clear HA
     simp only [tumblerref03_Valid.l0] at H
     by_cases c5 : x4_1 < (t121.length : Int)
     · rw [if_pos c5] at H
       have c5b0 : decide (x4_1 < (t121.length : Int)) = true := decide_eq_true c5; clear c5
       by_cases c6 : 0 ≤ x4_1
       · rw [if_pos c6] at H
         have c6b0 : decide (0 ≤ x4_1) = true := decide_eq_true c6; clear c6
         by_cases c7 : (rdOf ByteArray.empty t121 x4_1).toList = ([] : List UInt8)
         · rw [if_pos c7] at H
           have c7b0 : ((rdOf ByteArray.empty t121 x4_1).toList == ([] : List UInt8)) = true := beq_iff_eq.mpr c7; have c7b1 : ((rdOf ByteArray.empty t121 x4_1).toList != ([] : List UInt8)) = false := bne_eq_false_iff_eq.mpr c7; clear c7
           obtain rfl := Option.some.inj H
           obtain ⟨Ao8, co8, eo8⟩ := Kd.R_slice HO_3.out
           subst eo8; have p124 : 0 ≤ (x4_1 : Int) := of_decide_eq_true (by first | (with_reducible assumption) | assumption); have q124 : x4_1 < (t121.length : Int) := of_decide_eq_true (by first | (with_reducible assumption) | assumption)
           obtain ⟨ad124, e124, hx124_0⟩ := Kd.at_string (Kd.R_reads' HO_3.out).2.2 x4_1 p124 q124
           cases e124
           replace p124 := eq_true p124
           replace q124 := eq_true q124
           go_wp2
           go_ret
           exact ⟨by first | rfl | (simp [errW_none, errW_some] <;> rfl) | (simp [*, errW_none, errW_some] <;> rfl), by repeat (first | (with_reducible first | exact HB.out | apply dA | apply dB | apply dC) | exact HB.out)⟩
         · rw [if_neg c7] at H
           have c7b0 : ((rdOf ByteArray.empty t121 x4_1).toList == ([] : List UInt8)) = false := beq_eq_false_iff_ne.mpr c7; have c7b1 : ((rdOf ByteArray.empty t121 x4_1).toList != ([] : List UInt8)) = true := bne_iff_ne.mpr c7
           replace H := Option.bind_eq_some_iff.mp H
           obtain ⟨t126, A90, H⟩ := H
           replace H : (if t126 = true then (tumblerref03_Valid.l0 k1 t121 (wrap64 (x4_1 + 1))) else (some false)) = some r := H
           have A9 := Aside0.mk A90; clear A90
           by_cases c10 : t126 = true
           · subst c10
             have H1 : (tumblerref03_Valid.l0 k1 t121 (wrap64 (x4_1 + 1))) = some r := by rw [if_pos rfl] at H; exact H
             clear H; have H := H1; clear H1; have H' := Aside0.mk H; clear H
             obtain ⟨Ao11, co11, eo11⟩ := Kd.R_slice HO_3.out
             subst eo11; have p124 : 0 ≤ (x4_1 : Int) := of_decide_eq_true (by first | (with_reducible assumption) | assumption); have q124 : x4_1 < (t121.length : Int) := of_decide_eq_true (by first | (with_reducible assumption) | assumption)
             obtain ⟨ad124, e124, hx124_0⟩ := Kd.at_string (Kd.R_reads' HO_3.out).2.2 x4_1 p124 q124
             cases e124
             replace p124 := eq_true p124
             replace q124 := eq_true q124
             have p125 : 0 ≤ (x4_1 : Int) := of_decide_eq_true (by first | (with_reducible assumption) | assumption); have q125 : x4_1 < (t121.length : Int) := of_decide_eq_true (by first | (with_reducible assumption) | assumption)
             obtain ⟨ad125, e125, hx125_0⟩ := Kd.at_string (Kd.R_reads' HO_3.out).2.2 x4_1 p125 q125
             obtain rfl : ad124 = ad125 := (by injection e125)
             replace p125 := eq_true p125
             replace q125 := eq_true q125
             go_wp2_with (first | (go_at_call 22; (with_reducible refine (tumblerref03_Bytes.calls k1 (rdOf ByteArray.empty t121 x4_1) true _ A9.out).mono ?_); rintro e w' ⟨rfl, ⟨nd, rfl⟩⟩))
             go_roundg k1
             case measure => have := HK1.out; omega
             case rel => exact ⟨(wrap64 (x4_1 + 1)), (by first | rfl | (simp; done) | (simp [*]; done)), H', ⟨by have := HK1.out; omega⟩, ⟨by (with_reducible repeat (first | apply Kd.R_alloc | apply Kd.R_drewN | apply Kd.R_drew)); exact HO_3.out⟩, ⟨by repeat (first | (with_reducible first | exact HB.out | apply dA | apply dB | apply dC) | exact HB.out)⟩⟩
           · replace c10 := Bool.eq_false_iff.mpr c10
             subst c10
             have H1 : (some false) = some r := by rw [if_neg (show ¬ (false = true) by decide)] at H; exact H
             clear H; have H := H1; clear H1
             obtain rfl := Option.some.inj H
             obtain ⟨Ao12, co12, eo12⟩ := Kd.R_slice HO_3.out
             subst eo12; have p124 : 0 ≤ (x4_1 : Int) := of_decide_eq_true (by first | (with_reducible assumption) | assumption); have q124 : x4_1 < (t121.length : Int) := of_decide_eq_true (by first | (with_reducible assumption) | assumption)
             obtain ⟨ad124, e124, hx124_0⟩ := Kd.at_string (Kd.R_reads' HO_3.out).2.2 x4_1 p124 q124
             cases e124
             replace p124 := eq_true p124
             replace q124 := eq_true q124
             have p125 : 0 ≤ (x4_1 : Int) := of_decide_eq_true (by first | (with_reducible assumption) | assumption); have q125 : x4_1 < (t121.length : Int) := of_decide_eq_true (by first | (with_reducible assumption) | assumption)
             obtain ⟨ad125, e125, hx125_0⟩ := Kd.at_string (Kd.R_reads' HO_3.out).2.2 x4_1 p125 q125
             obtain rfl : ad124 = ad125 := (by injection e125)
             replace p125 := eq_true p125
             replace q125 := eq_true q125
             go_wp2_with (first | (go_at_call 22; (with_reducible refine (tumblerref03_Bytes.calls k1 (rdOf ByteArray.empty t121 x4_1) false _ A9.out).mono ?_); rintro e w' ⟨rfl, ⟨nd, rfl⟩⟩))
             go_ret
             exact ⟨by first | rfl | (simp [errW_none, errW_some] <;> rfl) | (simp [*, errW_none, errW_some] <;> rfl), by repeat (first | (with_reducible first | exact HB.out | apply dA | apply dB | apply dC) | exact HB.out)⟩
       · rw [if_neg c6] at H
         exact absurd H (by simp)
     · rw [if_neg c5] at H
       have c5b0 : decide (x4_1 < (t121.length : Int)) = false := decide_eq_false c5; clear c5
       obtain rfl := Option.some.inj H
       obtain ⟨Ao13, co13, eo13⟩ := Kd.R_slice HO_3.out
       subst eo13
       go_wp2
       go_ret
       exact ⟨by first | rfl | (simp [errW_none, errW_some] <;> rfl) | (simp [*, errW_none, errW_some] <;> rfl), by repeat (first | (with_reducible first | exact HB.out | apply dA | apply dB | apply dC) | exact HB.out)⟩

end Go.Proofs.YtifhebempfjcmaaDoor.P
