-- Printed by this session's own pp.py (wip/tool) out of the translation.
import Derived.Test.YtcfhmbhlibhlnaaDoorPx0
import Derived.Test.YtcfhmbhlibhlnaaDoorPxf103
namespace Go.Proofs.YtcfhmbhlibhlnaaDoor.P
open Go.RowKit Go.Proofs.YtcfhmbhlibhlnaaDoorW.PrintWords Go.Proofs.YtcfhmbhlibhlnaaDoorW.PrintLast Go.Proofs.YtcfhmbhlibhlnaaDoorW.PrintMore Go.Proofs.YtcfhmbhlibhlnaaDoor.Mine
attribute [local go_sem] ext71 ext79 eqA61 eqA62
attribute [local go_sem] max2_int min2_int max_two min_two max_three min_three max_four min_four   -- for this text's walks alone
set_option linter.unusedVariables false
set_option linter.unusedSimpArgs false

/-! ### tumblerref01_cmpL: function 109 -/
def tumblerref01_cmpL.l0 : Nat → List Int → List Int → Int → Option (Int)
 | 0, _, _, _ => none
 | k + 1, x0, x1, x5 => if x5 ≥ 0 then (if 0 ≤ x5 then (if x5 < (x0.length : Int) then (if x5 < (x1.length : Int) then (if (rd x0 x5) < (rd x1 x5) then (some (-1)) else (if (rd x0 x5) > (rd x1 x5) then (some 1) else (tumblerref01_cmpL.l0 k x0 x1 (wrap64 (x5 - 1))))) else (none)) else (none)) else (none)) else (some 0)
def tumblerref01_cmpL.f (k : Nat) (l0 : List Int) (l1 : List Int) : Option (Int) := (tumblerref01_trim.f k l0).bind fun t320 => ((tumblerref01_trim.f k l1).bind fun t323 => (if (t320.length : Int) = (t323.length : Int) then (tumblerref01_cmpL.l0 k t320 t323 (wrap64 ((t320.length : Int) - 1))) else (if (t320.length : Int) < (t323.length : Int) then (some (-1)) else (some 1))))
theorem tumblerref01_cmpL.mono_l : ∀ k, (∀ y0 y1 y2, LeO (tumblerref01_cmpL.l0 k y0 y1 y2) (tumblerref01_cmpL.l0 (k + 1) y0 y1 y2))
 | 0 => fun _ _ _ r h => by simp [tumblerref01_cmpL.l0] at h
 | k + 1 => by
  have ih0 := tumblerref01_cmpL.mono_l k
  · intro y0 y1 y2
    unfold tumblerref01_cmpL.l0
    repeat' first
    | (with_reducible exact ih0 _ _ _)
    | (with_reducible exact tumblerref01_trim.mono _ _)
    | (with_reducible exact LeO.refl _)
    | (with_reducible exact LeO.none _)
    | (with_reducible refine LeO.ite ?_ ?_)
    | (with_reducible refine LeO.bind ?_ (fun _ => ?_))
    | exact ih0 _ _ _
    | exact tumblerref01_trim.mono _ _
    | exact LeO.none _
    | refine LeO.ite ?_ ?_
    | refine LeO.bind ?_ (fun _ => ?_)
theorem tumblerref01_cmpL.mono : ∀ a0 a1 k, LeO (tumblerref01_cmpL.f k a0 a1) (tumblerref01_cmpL.f (k + 1) a0 a1) := by
 intro a0 a1 k; have ih0 := tumblerref01_cmpL.mono_l k
 unfold tumblerref01_cmpL.f
 repeat' first
  | (with_reducible exact ih0 _ _ _)
  | (with_reducible exact tumblerref01_trim.mono _ _)
  | (with_reducible exact LeO.refl _)
  | (with_reducible exact LeO.none _)
  | (with_reducible refine LeO.ite ?_ ?_)
  | (with_reducible refine LeO.bind ?_ (fun _ => ?_))
  | exact ih0 _ _ _
  | exact tumblerref01_trim.mono _ _
  | exact LeO.none _
  | refine LeO.ite ?_ ?_
  | refine LeO.bind ?_ (fun _ => ?_)
set_option maxHeartbeats 8000000 in
set_option maxRecDepth 100000 in
theorem tumblerref01_cmpL.calls (k : Nat) (A0 : Option Addr) (c0 : Nat) (l0 : List Int) (A1 : Option Addr) (c1 : Nat) (l1 : List Int) (r : Int) (w : World) (hr0 : Kd.C (Kd.int .u32) w A0 l0.length l0) (hc0 : l0.length ≤ c0) (hr1 : Kd.C (Kd.int .u32) w A1 l1.length l1) (hc1 : l1.length ≤ c1) (h : tumblerref01_cmpL.f k l0 l1 = some r) :
 Calls Tryd.prog 109 #[.slice A0 l0.length c0, .slice A1 l1.length c1] w fun e w' => e = .returned (.int .i64 r) ∧ Below w.heap.size w w' := by
 have HR0 := Aside0.mk hr0; have HC0 := Aside0.mk hc0; clear hr0 hc0; have HR1 := Aside0.mk hr1; have HC1 := Aside0.mk hc1; clear hr1 hc1; have HB := am (Below.refl w.heap.size w); have H : ((tumblerref01_trim.f k l0).bind fun t320 => ((tumblerref01_trim.f k l1).bind fun t323 => (if (t320.length : Int) = (t323.length : Int) then (tumblerref01_cmpL.l0 k t320 t323 (wrap64 ((t320.length : Int) - 1))) else (if (t320.length : Int) < (t323.length : Int) then (some (-1)) else (some 1))))) = some r := h; clear h
 replace H := Option.bind_eq_some_iff.mp H
 obtain ⟨t320, A30, H⟩ := H
 replace H : ((tumblerref01_trim.f k l1).bind fun t323 => (if (t320.length : Int) = (t323.length : Int) then (tumblerref01_cmpL.l0 k t320 t323 (wrap64 ((t320.length : Int) - 1))) else (if (t320.length : Int) < (t323.length : Int) then (some (-1)) else (some 1)))) = some r := H
 have A3 := Aside0.mk A30; clear A30
 replace H := Option.bind_eq_some_iff.mp H
 obtain ⟨t323, A40, H⟩ := H
 replace H : (if (t320.length : Int) = (t323.length : Int) then (tumblerref01_cmpL.l0 k t320 t323 (wrap64 ((t320.length : Int) - 1))) else (if (t320.length : Int) < (t323.length : Int) then (some (-1)) else (some 1))) = some r := H
 have A4 := Aside0.mk A40; clear A40
 by_cases c5 : (t320.length : Int) = (t323.length : Int)
 · rw [if_pos c5] at H
   have c5b0 : ((t320.length : Int) == (t323.length : Int)) = true := beq_iff_eq.mpr c5; have c5b1 : ((t320.length : Int) != (t323.length : Int)) = false := bne_eq_false_iff_eq.mpr c5
   have c5b2 : (t320.length == t323.length) = true := by first | simpa using c5 | (simp at c5 ⊢; omega)
   clear c5; have H' := Aside0.mk H; clear H
   go_enter Tryd.func109, Tryd.ntmps109
   go_wp2_with (first | (go_at_call 103; (with_reducible refine (tumblerref01_trim.calls k (fun k_ => k_ < w.heap.size) _ _ l0 t320 _ ?side1 A3.out).mono ?_); (case side1 => exact Kd.V_mk HC0.out (Kd.F_below (Kd.C_F (Kd.heap_int .u32) HR0.out) bz)); rintro e w6 ⟨v321, rfl, ho0, hb⟩; have n0_ := am (Kd.V_lower (Kd.V_mono (ok' := fun k_ => True) ho0 (fun k_ hk_ => trivial)) (below_size bz)); have n1_ := am (below_step bz hb); clear HB; have HO322 := n0_; have HB := n1_; clear n0_ n1_; (try clear hb); (try clear hb2); (try clear hk); (try clear hi); (try clear ho0)) | (go_at_call 103; (with_reducible refine (tumblerref01_trim.calls k (fun k_ => k_ < w.heap.size) _ _ l1 t323 _ ?side1 A4.out).mono ?_); (case side1 => exact Kd.V_mk HC1.out (Kd.F_below (Kd.C_F (Kd.heap_int .u32) HR1.out) bz)); rintro e w7 ⟨v324, rfl, ho0, hb⟩; have n0_ := am (Kd.V_below (by (with_reducible repeat (first | apply Kd.V_alloc | apply Kd.V_drewN | apply Kd.V_drew)); exact HO322.out) hb); have n1_ := am (Kd.V_lower (Kd.V_mono (ok' := fun k_ => True) ho0 (fun k_ hk_ => trivial)) (below_size bz)); have n2_ := am (below_step bz hb); clear HO322; clear HB; have HO322 := n0_; have HO325 := n1_; have HB := n2_; clear n0_ n1_ n2_; (try clear hb); (try clear hb2); (try clear hk); (try clear hi); (try clear ho0); obtain ⟨Ao8, co8, eo8⟩ := Kd.V_slice HO322.out; subst eo8; obtain ⟨Ao9, co9, eo9⟩ := Kd.V_slice HO325.out; subst eo9))
   repeat (go_quiet (first | (go_at_call 103; (with_reducible refine (tumblerref01_trim.calls k (fun k_ => k_ < w.heap.size) _ _ l0 t320 _ ?side1 A3.out).mono ?_); (case side1 => exact Kd.V_mk HC0.out (Kd.F_below (Kd.C_F (Kd.heap_int .u32) HR0.out) bz)); rintro e w6 ⟨v321, rfl, ho0, hb⟩; have n0_ := am (Kd.V_lower (Kd.V_mono (ok' := fun k_ => True) ho0 (fun k_ hk_ => trivial)) (below_size bz)); have n1_ := am (below_step bz hb); clear HB; have HO322 := n0_; have HB := n1_; clear n0_ n1_; (try clear hb); (try clear hb2); (try clear hk); (try clear hi); (try clear ho0)) | (go_at_call 103; (with_reducible refine (tumblerref01_trim.calls k (fun k_ => k_ < w.heap.size) _ _ l1 t323 _ ?side1 A4.out).mono ?_); (case side1 => exact Kd.V_mk HC1.out (Kd.F_below (Kd.C_F (Kd.heap_int .u32) HR1.out) bz)); rintro e w7 ⟨v324, rfl, ho0, hb⟩; have n0_ := am (Kd.V_below (by (with_reducible repeat (first | apply Kd.V_alloc | apply Kd.V_drewN | apply Kd.V_drew)); exact HO322.out) hb); have n1_ := am (Kd.V_lower (Kd.V_mono (ok' := fun k_ => True) ho0 (fun k_ hk_ => trivial)) (below_size bz)); have n2_ := am (below_step bz hb); clear HO322; clear HB; have HO322 := n0_; have HO325 := n1_; have HB := n2_; clear n0_ n1_ n2_; (try clear hb); (try clear hb2); (try clear hk); (try clear hi); (try clear ho0); obtain ⟨Ao8, co8, eo8⟩ := Kd.V_slice HO322.out; subst eo8; obtain ⟨Ao9, co9, eo9⟩ := Kd.V_slice HO325.out; subst eo9)); try go_wp2_with (first | (go_at_call 103; (with_reducible refine (tumblerref01_trim.calls k (fun k_ => k_ < w.heap.size) _ _ l0 t320 _ ?side1 A3.out).mono ?_); (case side1 => exact Kd.V_mk HC0.out (Kd.F_below (Kd.C_F (Kd.heap_int .u32) HR0.out) bz)); rintro e w6 ⟨v321, rfl, ho0, hb⟩; have n0_ := am (Kd.V_lower (Kd.V_mono (ok' := fun k_ => True) ho0 (fun k_ hk_ => trivial)) (below_size bz)); have n1_ := am (below_step bz hb); clear HB; have HO322 := n0_; have HB := n1_; clear n0_ n1_; (try clear hb); (try clear hb2); (try clear hk); (try clear hi); (try clear ho0)) | (go_at_call 103; (with_reducible refine (tumblerref01_trim.calls k (fun k_ => k_ < w.heap.size) _ _ l1 t323 _ ?side1 A4.out).mono ?_); (case side1 => exact Kd.V_mk HC1.out (Kd.F_below (Kd.C_F (Kd.heap_int .u32) HR1.out) bz)); rintro e w7 ⟨v324, rfl, ho0, hb⟩; have n0_ := am (Kd.V_below (by (with_reducible repeat (first | apply Kd.V_alloc | apply Kd.V_drewN | apply Kd.V_drew)); exact HO322.out) hb); have n1_ := am (Kd.V_lower (Kd.V_mono (ok' := fun k_ => True) ho0 (fun k_ hk_ => trivial)) (below_size bz)); have n2_ := am (below_step bz hb); clear HO322; clear HB; have HO322 := n0_; have HO325 := n1_; have HB := n2_; clear n0_ n1_ n2_; (try clear hb); (try clear hb2); (try clear hk); (try clear hi); (try clear ho0); obtain ⟨Ao8, co8, eo8⟩ := Kd.V_slice HO322.out; subst eo8; obtain ⟨Ao9, co9, eo9⟩ := Kd.V_slice HO325.out; subst eo9)))
   go_loopg [5] k (fun kq v5 w' => ∃ (x5_1 : Int), v5 = .int .i64 x5_1 ∧ Aside0 (tumblerref01_cmpL.l0 kq t320 t323 x5_1 = some r) ∧ Aside0 (kq ≤ k) ∧ Aside0 (Kd.V (Kd.int .u32) 121 w' w.heap.size (fun _ => True) (.slice Ao8 t320.length co8) t320) ∧ Aside0 (Kd.V (Kd.int .u32) 121 w' w.heap.size (fun _ => True) (.slice Ao9 t323.length co9) t323) ∧ Aside0 (Below w.heap.size w w'))
   case atStart => exact ⟨(wrap64 ((t320.length : Int) - 1)), (by first | rfl | (simp; done) | (simp [*]; done)), H', ⟨Nat.le_refl _⟩, ⟨by (with_reducible repeat (first | apply Kd.V_alloc | apply Kd.V_drewN | apply Kd.V_drew)); exact HO322.out⟩, ⟨by (with_reducible repeat (first | apply Kd.V_alloc | apply Kd.V_drewN | apply Kd.V_drew)); exact HO325.out⟩, ⟨by repeat (first | (with_reducible first | exact HB.out | apply dA | apply dB | apply dC) | exact HB.out)⟩⟩
   case round =>
    clear H'
    try clear c1
    try clear p2
    try clear c5
    try clear c5b0
    try clear c5b1
    try clear c5b2
    try clear p6
    obtain ⟨x5_1, rfl, HA, HK1, HO_0, HO_1, HB⟩ := hrel
    cases gk with
    | zero => exact absurd HA.out (by simp [tumblerref01_cmpL.l0])
    | succ k1 =>
     have H := HA.out; clear HA
     simp only [tumblerref01_cmpL.l0] at H
     by_cases c10 : x5_1 ≥ 0
     · rw [if_pos c10] at H
       have c10b0 : decide (0 ≤ x5_1) = true := decide_eq_true c10; clear c10
       by_cases c11 : 0 ≤ x5_1
       · rw [if_pos c11] at H
         have c11b0 : decide (0 ≤ x5_1) = true := decide_eq_true c11; clear c11
         by_cases c12 : x5_1 < (t320.length : Int)
         · rw [if_pos c12] at H
           have c12b0 : decide (x5_1 < (t320.length : Int)) = true := decide_eq_true c12; clear c12
           by_cases c13 : x5_1 < (t323.length : Int)
           · rw [if_pos c13] at H
             have c13b0 : decide (x5_1 < (t323.length : Int)) = true := decide_eq_true c13; clear c13
             by_cases c14 : (rd t320 x5_1) < (rd t323 x5_1)
             · rw [if_pos c14] at H
               have c14b0 : decide ((rd t320 x5_1) < (rd t323 x5_1)) = true := decide_eq_true c14; clear c14
               obtain rfl := Option.some.inj H
               have p326 : 0 ≤ (x5_1 : Int) := of_decide_eq_true (by first | (with_reducible assumption) | assumption); have q326 : x5_1 < (t320.length : Int) := of_decide_eq_true (by first | (with_reducible assumption) | assumption)
               obtain ⟨ad326, e326, hx326_0⟩ := Kd.at_int (Kd.V_reads' HO_0.out).2.2 x5_1 p326 q326
               cases e326
               replace p326 := eq_true p326
               replace q326 := eq_true q326
               have p327 : 0 ≤ (x5_1 : Int) := of_decide_eq_true (by first | (with_reducible assumption) | assumption); have q327 : x5_1 < (t323.length : Int) := of_decide_eq_true (by first | (with_reducible assumption) | assumption)
               obtain ⟨ad327, e327, hx327_0⟩ := Kd.at_int (Kd.V_reads' HO_1.out).2.2 x5_1 p327 q327
               cases e327
               replace p327 := eq_true p327
               replace q327 := eq_true q327
               go_wp2
               repeat (go_quiet (fail); try go_wp2)
               go_ret
               exact ⟨by first | rfl | (simp [errW_none, errW_some] <;> rfl) | (simp [*, errW_none, errW_some] <;> rfl), by repeat (first | (with_reducible first | exact HB.out | apply dA | apply dB | apply dC) | exact HB.out)⟩
             · rw [if_neg c14] at H
               have c14b0 : decide ((rd t320 x5_1) < (rd t323 x5_1)) = false := decide_eq_false c14; clear c14
               by_cases c15 : (rd t320 x5_1) > (rd t323 x5_1)
               · rw [if_pos c15] at H
                 have c15b0 : decide ((rd t323 x5_1) < (rd t320 x5_1)) = true := decide_eq_true c15; clear c15
                 obtain rfl := Option.some.inj H
                 have p326 : 0 ≤ (x5_1 : Int) := of_decide_eq_true (by first | (with_reducible assumption) | assumption); have q326 : x5_1 < (t320.length : Int) := of_decide_eq_true (by first | (with_reducible assumption) | assumption)
                 obtain ⟨ad326, e326, hx326_0⟩ := Kd.at_int (Kd.V_reads' HO_0.out).2.2 x5_1 p326 q326
                 cases e326
                 replace p326 := eq_true p326
                 replace q326 := eq_true q326
                 have p327 : 0 ≤ (x5_1 : Int) := of_decide_eq_true (by first | (with_reducible assumption) | assumption); have q327 : x5_1 < (t323.length : Int) := of_decide_eq_true (by first | (with_reducible assumption) | assumption)
                 obtain ⟨ad327, e327, hx327_0⟩ := Kd.at_int (Kd.V_reads' HO_1.out).2.2 x5_1 p327 q327
                 cases e327
                 replace p327 := eq_true p327
                 replace q327 := eq_true q327
                 have p328 : 0 ≤ (x5_1 : Int) := of_decide_eq_true (by first | (with_reducible assumption) | assumption); have q328 : x5_1 < (t320.length : Int) := of_decide_eq_true (by first | (with_reducible assumption) | assumption)
                 obtain ⟨ad328, e328, hx328_0⟩ := Kd.at_int (Kd.V_reads' HO_0.out).2.2 x5_1 p328 q328
                 obtain rfl : ad326 = ad328 := (by injection e328)
                 replace p328 := eq_true p328
                 replace q328 := eq_true q328
                 have p329 : 0 ≤ (x5_1 : Int) := of_decide_eq_true (by first | (with_reducible assumption) | assumption); have q329 : x5_1 < (t323.length : Int) := of_decide_eq_true (by first | (with_reducible assumption) | assumption)
                 obtain ⟨ad329, e329, hx329_0⟩ := Kd.at_int (Kd.V_reads' HO_1.out).2.2 x5_1 p329 q329
                 obtain rfl : ad327 = ad329 := (by injection e329)
                 replace p329 := eq_true p329
                 replace q329 := eq_true q329
                 go_wp2
                 repeat (go_quiet (fail); try go_wp2)
                 go_ret
                 exact ⟨by first | rfl | (simp [errW_none, errW_some] <;> rfl) | (simp [*, errW_none, errW_some] <;> rfl), by repeat (first | (with_reducible first | exact HB.out | apply dA | apply dB | apply dC) | exact HB.out)⟩
               · rw [if_neg c15] at H
                 have c15b0 : decide ((rd t323 x5_1) < (rd t320 x5_1)) = false := decide_eq_false c15; clear c15; have H' := Aside0.mk H; clear H; have p326 : 0 ≤ (x5_1 : Int) := of_decide_eq_true (by first | (with_reducible assumption) | assumption); have q326 : x5_1 < (t320.length : Int) := of_decide_eq_true (by first | (with_reducible assumption) | assumption)
                 obtain ⟨ad326, e326, hx326_0⟩ := Kd.at_int (Kd.V_reads' HO_0.out).2.2 x5_1 p326 q326
                 cases e326
                 replace p326 := eq_true p326
                 replace q326 := eq_true q326
                 have p327 : 0 ≤ (x5_1 : Int) := of_decide_eq_true (by first | (with_reducible assumption) | assumption); have q327 : x5_1 < (t323.length : Int) := of_decide_eq_true (by first | (with_reducible assumption) | assumption)
                 obtain ⟨ad327, e327, hx327_0⟩ := Kd.at_int (Kd.V_reads' HO_1.out).2.2 x5_1 p327 q327
                 cases e327
                 replace p327 := eq_true p327
                 replace q327 := eq_true q327
                 have p328 : 0 ≤ (x5_1 : Int) := of_decide_eq_true (by first | (with_reducible assumption) | assumption); have q328 : x5_1 < (t320.length : Int) := of_decide_eq_true (by first | (with_reducible assumption) | assumption)
                 obtain ⟨ad328, e328, hx328_0⟩ := Kd.at_int (Kd.V_reads' HO_0.out).2.2 x5_1 p328 q328
                 obtain rfl : ad326 = ad328 := (by injection e328)
                 replace p328 := eq_true p328
                 replace q328 := eq_true q328
                 have p329 : 0 ≤ (x5_1 : Int) := of_decide_eq_true (by first | (with_reducible assumption) | assumption); have q329 : x5_1 < (t323.length : Int) := of_decide_eq_true (by first | (with_reducible assumption) | assumption)
                 obtain ⟨ad329, e329, hx329_0⟩ := Kd.at_int (Kd.V_reads' HO_1.out).2.2 x5_1 p329 q329
                 obtain rfl : ad327 = ad329 := (by injection e329)
                 replace p329 := eq_true p329
                 replace q329 := eq_true q329
                 go_wp2
                 repeat (go_quiet (fail); try go_wp2)
                 go_roundg k1
                 case measure => have := HK1.out; omega
                 case rel => exact ⟨(wrap64 (x5_1 - 1)), (by first | rfl | (simp; done) | (simp [*]; done)), H', ⟨by have := HK1.out; omega⟩, ⟨by (with_reducible repeat (first | apply Kd.V_alloc | apply Kd.V_drewN | apply Kd.V_drew)); exact HO_0.out⟩, ⟨by (with_reducible repeat (first | apply Kd.V_alloc | apply Kd.V_drewN | apply Kd.V_drew)); exact HO_1.out⟩, ⟨by repeat (first | (with_reducible first | exact HB.out | apply dA | apply dB | apply dC) | exact HB.out)⟩⟩
           · rw [if_neg c13] at H
             exact absurd H (by simp)
         · rw [if_neg c12] at H
           exact absurd H (by simp)
       · rw [if_neg c11] at H
         exact absurd H (by simp)
     · rw [if_neg c10] at H
       have c10b0 : decide (0 ≤ x5_1) = false := decide_eq_false c10; clear c10
       obtain rfl := Option.some.inj H
       go_wp2
       repeat (go_quiet (fail); try go_wp2)
       go_ret
       exact ⟨by first | rfl | (simp [errW_none, errW_some] <;> rfl) | (simp [*, errW_none, errW_some] <;> rfl), by repeat (first | (with_reducible first | exact HB.out | apply dA | apply dB | apply dC) | exact HB.out)⟩
 · rw [if_neg c5] at H
   have c5b0 : ((t320.length : Int) == (t323.length : Int)) = false := beq_eq_false_iff_ne.mpr c5; have c5b1 : ((t320.length : Int) != (t323.length : Int)) = true := bne_iff_ne.mpr c5
   have c5b2 : (t320.length == t323.length) = false := by first | simpa using c5 | (simp at c5 ⊢; omega)
   by_cases c16 : (t320.length : Int) < (t323.length : Int)
   · rw [if_pos c16] at H
     have c16b0 : decide ((t320.length : Int) < (t323.length : Int)) = true := decide_eq_true c16; have c16b1 : decide (t320.length < t323.length) = true := decide_eq_true (Int.ofNat_lt.mp c16); clear c16
     obtain rfl := Option.some.inj H
     go_enter Tryd.func109, Tryd.ntmps109
     go_wp2_with (first | (go_at_call 103; (with_reducible refine (tumblerref01_trim.calls k (fun k_ => k_ < w.heap.size) _ _ l0 t320 _ ?side1 A3.out).mono ?_); (case side1 => exact Kd.V_mk HC0.out (Kd.F_below (Kd.C_F (Kd.heap_int .u32) HR0.out) bz)); rintro e w17 ⟨v321, rfl, ho0, hb⟩; have n0_ := am (Kd.V_lower (Kd.V_mono (ok' := fun k_ => True) ho0 (fun k_ hk_ => trivial)) (below_size bz)); have n1_ := am (below_step bz hb); clear HB; have HO322 := n0_; have HB := n1_; clear n0_ n1_; (try clear hb); (try clear hb2); (try clear hk); (try clear hi); (try clear ho0)) | (go_at_call 103; (with_reducible refine (tumblerref01_trim.calls k (fun k_ => k_ < w.heap.size) _ _ l1 t323 _ ?side1 A4.out).mono ?_); (case side1 => exact Kd.V_mk HC1.out (Kd.F_below (Kd.C_F (Kd.heap_int .u32) HR1.out) bz)); rintro e w18 ⟨v324, rfl, ho0, hb⟩; have n0_ := am (Kd.V_below (by (with_reducible repeat (first | apply Kd.V_alloc | apply Kd.V_drewN | apply Kd.V_drew)); exact HO322.out) hb); have n1_ := am (Kd.V_lower (Kd.V_mono (ok' := fun k_ => True) ho0 (fun k_ hk_ => trivial)) (below_size bz)); have n2_ := am (below_step bz hb); clear HO322; clear HB; have HO322 := n0_; have HO325 := n1_; have HB := n2_; clear n0_ n1_ n2_; (try clear hb); (try clear hb2); (try clear hk); (try clear hi); (try clear ho0); obtain ⟨Ao19, co19, eo19⟩ := Kd.V_slice HO322.out; subst eo19; obtain ⟨Ao20, co20, eo20⟩ := Kd.V_slice HO325.out; subst eo20))
     repeat (go_quiet (first | (go_at_call 103; (with_reducible refine (tumblerref01_trim.calls k (fun k_ => k_ < w.heap.size) _ _ l0 t320 _ ?side1 A3.out).mono ?_); (case side1 => exact Kd.V_mk HC0.out (Kd.F_below (Kd.C_F (Kd.heap_int .u32) HR0.out) bz)); rintro e w17 ⟨v321, rfl, ho0, hb⟩; have n0_ := am (Kd.V_lower (Kd.V_mono (ok' := fun k_ => True) ho0 (fun k_ hk_ => trivial)) (below_size bz)); have n1_ := am (below_step bz hb); clear HB; have HO322 := n0_; have HB := n1_; clear n0_ n1_; (try clear hb); (try clear hb2); (try clear hk); (try clear hi); (try clear ho0)) | (go_at_call 103; (with_reducible refine (tumblerref01_trim.calls k (fun k_ => k_ < w.heap.size) _ _ l1 t323 _ ?side1 A4.out).mono ?_); (case side1 => exact Kd.V_mk HC1.out (Kd.F_below (Kd.C_F (Kd.heap_int .u32) HR1.out) bz)); rintro e w18 ⟨v324, rfl, ho0, hb⟩; have n0_ := am (Kd.V_below (by (with_reducible repeat (first | apply Kd.V_alloc | apply Kd.V_drewN | apply Kd.V_drew)); exact HO322.out) hb); have n1_ := am (Kd.V_lower (Kd.V_mono (ok' := fun k_ => True) ho0 (fun k_ hk_ => trivial)) (below_size bz)); have n2_ := am (below_step bz hb); clear HO322; clear HB; have HO322 := n0_; have HO325 := n1_; have HB := n2_; clear n0_ n1_ n2_; (try clear hb); (try clear hb2); (try clear hk); (try clear hi); (try clear ho0); obtain ⟨Ao19, co19, eo19⟩ := Kd.V_slice HO322.out; subst eo19; obtain ⟨Ao20, co20, eo20⟩ := Kd.V_slice HO325.out; subst eo20)); try go_wp2_with (first | (go_at_call 103; (with_reducible refine (tumblerref01_trim.calls k (fun k_ => k_ < w.heap.size) _ _ l0 t320 _ ?side1 A3.out).mono ?_); (case side1 => exact Kd.V_mk HC0.out (Kd.F_below (Kd.C_F (Kd.heap_int .u32) HR0.out) bz)); rintro e w17 ⟨v321, rfl, ho0, hb⟩; have n0_ := am (Kd.V_lower (Kd.V_mono (ok' := fun k_ => True) ho0 (fun k_ hk_ => trivial)) (below_size bz)); have n1_ := am (below_step bz hb); clear HB; have HO322 := n0_; have HB := n1_; clear n0_ n1_; (try clear hb); (try clear hb2); (try clear hk); (try clear hi); (try clear ho0)) | (go_at_call 103; (with_reducible refine (tumblerref01_trim.calls k (fun k_ => k_ < w.heap.size) _ _ l1 t323 _ ?side1 A4.out).mono ?_); (case side1 => exact Kd.V_mk HC1.out (Kd.F_below (Kd.C_F (Kd.heap_int .u32) HR1.out) bz)); rintro e w18 ⟨v324, rfl, ho0, hb⟩; have n0_ := am (Kd.V_below (by (with_reducible repeat (first | apply Kd.V_alloc | apply Kd.V_drewN | apply Kd.V_drew)); exact HO322.out) hb); have n1_ := am (Kd.V_lower (Kd.V_mono (ok' := fun k_ => True) ho0 (fun k_ hk_ => trivial)) (below_size bz)); have n2_ := am (below_step bz hb); clear HO322; clear HB; have HO322 := n0_; have HO325 := n1_; have HB := n2_; clear n0_ n1_ n2_; (try clear hb); (try clear hb2); (try clear hk); (try clear hi); (try clear ho0); obtain ⟨Ao19, co19, eo19⟩ := Kd.V_slice HO322.out; subst eo19; obtain ⟨Ao20, co20, eo20⟩ := Kd.V_slice HO325.out; subst eo20)))
     go_ret
     exact ⟨by first | rfl | (simp [errW_none, errW_some] <;> rfl) | (simp [*, errW_none, errW_some] <;> rfl), by repeat (first | (with_reducible first | exact HB.out | apply dA | apply dB | apply dC) | exact HB.out)⟩
   · rw [if_neg c16] at H
     have c16b0 : decide ((t320.length : Int) < (t323.length : Int)) = false := decide_eq_false c16; have c16b1 : decide (t320.length < t323.length) = false := decide_eq_false (fun h => c16 (Int.ofNat_lt.mpr h)); clear c16
     obtain rfl := Option.some.inj H
     go_enter Tryd.func109, Tryd.ntmps109
     go_wp2_with (first | (go_at_call 103; (with_reducible refine (tumblerref01_trim.calls k (fun k_ => k_ < w.heap.size) _ _ l0 t320 _ ?side1 A3.out).mono ?_); (case side1 => exact Kd.V_mk HC0.out (Kd.F_below (Kd.C_F (Kd.heap_int .u32) HR0.out) bz)); rintro e w21 ⟨v321, rfl, ho0, hb⟩; have n0_ := am (Kd.V_lower (Kd.V_mono (ok' := fun k_ => True) ho0 (fun k_ hk_ => trivial)) (below_size bz)); have n1_ := am (below_step bz hb); clear HB; have HO322 := n0_; have HB := n1_; clear n0_ n1_; (try clear hb); (try clear hb2); (try clear hk); (try clear hi); (try clear ho0)) | (go_at_call 103; (with_reducible refine (tumblerref01_trim.calls k (fun k_ => k_ < w.heap.size) _ _ l1 t323 _ ?side1 A4.out).mono ?_); (case side1 => exact Kd.V_mk HC1.out (Kd.F_below (Kd.C_F (Kd.heap_int .u32) HR1.out) bz)); rintro e w22 ⟨v324, rfl, ho0, hb⟩; have n0_ := am (Kd.V_below (by (with_reducible repeat (first | apply Kd.V_alloc | apply Kd.V_drewN | apply Kd.V_drew)); exact HO322.out) hb); have n1_ := am (Kd.V_lower (Kd.V_mono (ok' := fun k_ => True) ho0 (fun k_ hk_ => trivial)) (below_size bz)); have n2_ := am (below_step bz hb); clear HO322; clear HB; have HO322 := n0_; have HO325 := n1_; have HB := n2_; clear n0_ n1_ n2_; (try clear hb); (try clear hb2); (try clear hk); (try clear hi); (try clear ho0); obtain ⟨Ao23, co23, eo23⟩ := Kd.V_slice HO322.out; subst eo23; obtain ⟨Ao24, co24, eo24⟩ := Kd.V_slice HO325.out; subst eo24))
     repeat (go_quiet (first | (go_at_call 103; (with_reducible refine (tumblerref01_trim.calls k (fun k_ => k_ < w.heap.size) _ _ l0 t320 _ ?side1 A3.out).mono ?_); (case side1 => exact Kd.V_mk HC0.out (Kd.F_below (Kd.C_F (Kd.heap_int .u32) HR0.out) bz)); rintro e w21 ⟨v321, rfl, ho0, hb⟩; have n0_ := am (Kd.V_lower (Kd.V_mono (ok' := fun k_ => True) ho0 (fun k_ hk_ => trivial)) (below_size bz)); have n1_ := am (below_step bz hb); clear HB; have HO322 := n0_; have HB := n1_; clear n0_ n1_; (try clear hb); (try clear hb2); (try clear hk); (try clear hi); (try clear ho0)) | (go_at_call 103; (with_reducible refine (tumblerref01_trim.calls k (fun k_ => k_ < w.heap.size) _ _ l1 t323 _ ?side1 A4.out).mono ?_); (case side1 => exact Kd.V_mk HC1.out (Kd.F_below (Kd.C_F (Kd.heap_int .u32) HR1.out) bz)); rintro e w22 ⟨v324, rfl, ho0, hb⟩; have n0_ := am (Kd.V_below (by (with_reducible repeat (first | apply Kd.V_alloc | apply Kd.V_drewN | apply Kd.V_drew)); exact HO322.out) hb); have n1_ := am (Kd.V_lower (Kd.V_mono (ok' := fun k_ => True) ho0 (fun k_ hk_ => trivial)) (below_size bz)); have n2_ := am (below_step bz hb); clear HO322; clear HB; have HO322 := n0_; have HO325 := n1_; have HB := n2_; clear n0_ n1_ n2_; (try clear hb); (try clear hb2); (try clear hk); (try clear hi); (try clear ho0); obtain ⟨Ao23, co23, eo23⟩ := Kd.V_slice HO322.out; subst eo23; obtain ⟨Ao24, co24, eo24⟩ := Kd.V_slice HO325.out; subst eo24)); try go_wp2_with (first | (go_at_call 103; (with_reducible refine (tumblerref01_trim.calls k (fun k_ => k_ < w.heap.size) _ _ l0 t320 _ ?side1 A3.out).mono ?_); (case side1 => exact Kd.V_mk HC0.out (Kd.F_below (Kd.C_F (Kd.heap_int .u32) HR0.out) bz)); rintro e w21 ⟨v321, rfl, ho0, hb⟩; have n0_ := am (Kd.V_lower (Kd.V_mono (ok' := fun k_ => True) ho0 (fun k_ hk_ => trivial)) (below_size bz)); have n1_ := am (below_step bz hb); clear HB; have HO322 := n0_; have HB := n1_; clear n0_ n1_; (try clear hb); (try clear hb2); (try clear hk); (try clear hi); (try clear ho0)) | (go_at_call 103; (with_reducible refine (tumblerref01_trim.calls k (fun k_ => k_ < w.heap.size) _ _ l1 t323 _ ?side1 A4.out).mono ?_); (case side1 => exact Kd.V_mk HC1.out (Kd.F_below (Kd.C_F (Kd.heap_int .u32) HR1.out) bz)); rintro e w22 ⟨v324, rfl, ho0, hb⟩; have n0_ := am (Kd.V_below (by (with_reducible repeat (first | apply Kd.V_alloc | apply Kd.V_drewN | apply Kd.V_drew)); exact HO322.out) hb); have n1_ := am (Kd.V_lower (Kd.V_mono (ok' := fun k_ => True) ho0 (fun k_ hk_ => trivial)) (below_size bz)); have n2_ := am (below_step bz hb); clear HO322; clear HB; have HO322 := n0_; have HO325 := n1_; have HB := n2_; clear n0_ n1_ n2_; (try clear hb); (try clear hb2); (try clear hk); (try clear hi); (try clear ho0); obtain ⟨Ao23, co23, eo23⟩ := Kd.V_slice HO322.out; subst eo23; obtain ⟨Ao24, co24, eo24⟩ := Kd.V_slice HO325.out; subst eo24)))
     go_ret
     exact ⟨by first | rfl | (simp [errW_none, errW_some] <;> rfl) | (simp [*, errW_none, errW_some] <;> rfl), by repeat (first | (with_reducible first | exact HB.out | apply dA | apply dB | apply dC) | exact HB.out)⟩

end Go.Proofs.YtcfhmbhlibhlnaaDoor.P
