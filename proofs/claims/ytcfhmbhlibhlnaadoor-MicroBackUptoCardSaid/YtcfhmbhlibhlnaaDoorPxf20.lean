-- Printed by this session's own pp.py (wip/tool) out of the translation.
import Derived.Test.YtcfhmbhlibhlnaaDoorPx0
import Derived.Test.YtcfhmbhlibhlnaaDoorPxf56
import Derived.Test.YtcfhmbhlibhlnaaDoorPxf59
namespace Go.Proofs.YtcfhmbhlibhlnaaDoor.P
open Go.RowKit Go.Proofs.YtcfhmbhlibhlnaaDoorW.PrintWords Go.Proofs.YtcfhmbhlibhlnaaDoorW.PrintLast Go.Proofs.YtcfhmbhlibhlnaaDoorW.PrintMore Go.Proofs.YtcfhmbhlibhlnaaDoor.Mine
attribute [local go_sem] ext71 ext79 eqA61 eqA62
attribute [local go_sem] max2_int min2_int max_two min_two max_three min_three max_four min_four   -- for this text's walks alone
set_option linter.unusedVariables false
set_option linter.unusedSimpArgs false

/-! ### tumblerlaw02_MicroBack: function 20 -/
def tumblerlaw02_MicroBack.f (k : Nat) (a0 : Int) : Option (Bool) := (micro_Print.f k a0).bind fun t1060 => ((micro_Parse.f k t1060).bind fun bt1061 => (if a0 > 1000000000000000 then (if (t1060.size : Int) > 9 then (some (bt1061.2 == 22)) else (some false)) else (if a0 < (-1000000000000000) then (if (t1060.size : Int) > 9 then (some (bt1061.2 == 22)) else (some false)) else (if bt1061.1 = a0 then (if bt1061.2 = 0 then (some (decide ((t1060.size : Int) > 0))) else (some false)) else (some false)))))
theorem tumblerlaw02_MicroBack.mono : ∀ a0 k, LeO (tumblerlaw02_MicroBack.f k a0) (tumblerlaw02_MicroBack.f (k + 1) a0) := by
 intro a0 k
 unfold tumblerlaw02_MicroBack.f
 repeat' first
  | (with_reducible exact micro_Parse.mono _ _)
  | (with_reducible exact micro_Print.mono _ _)
  | (with_reducible exact LeO.refl _)
  | (with_reducible exact LeO.none _)
  | (with_reducible refine LeO.ite ?_ ?_)
  | (with_reducible refine LeO.bind ?_ (fun _ => ?_))
  | exact micro_Parse.mono _ _
  | exact micro_Print.mono _ _
  | exact LeO.none _
  | refine LeO.ite ?_ ?_
  | refine LeO.bind ?_ (fun _ => ?_)
set_option maxHeartbeats 8000000 in
set_option maxRecDepth 100000 in
theorem tumblerlaw02_MicroBack.calls (k : Nat) (a0 : Int) (r : Bool) (w : World) (hT : Aside0 (WF w)) (hr_ : Aside0 (r = true)) (h : tumblerlaw02_MicroBack.f k a0 = some r) :
 Calls Tryd.prog 20 #[.int .i64 a0] w fun e w' => e = .returned (.bool r) ∧ Below w.heap.size w w' := by
 have HB := am (Below.refl w.heap.size w); have H : ((micro_Print.f k a0).bind fun t1060 => ((micro_Parse.f k t1060).bind fun bt1061 => (if a0 > 1000000000000000 then (if (t1060.size : Int) > 9 then (some (bt1061.2 == 22)) else (some false)) else (if a0 < (-1000000000000000) then (if (t1060.size : Int) > 9 then (some (bt1061.2 == 22)) else (some false)) else (if bt1061.1 = a0 then (if bt1061.2 = 0 then (some (decide ((t1060.size : Int) > 0))) else (some false)) else (some false)))))) = some r := h; clear h
 replace H := Option.bind_eq_some_iff.mp H
 obtain ⟨t1060, A20, H⟩ := H
 replace H : ((micro_Parse.f k t1060).bind fun bt1061 => (if a0 > 1000000000000000 then (if (t1060.size : Int) > 9 then (some (bt1061.2 == 22)) else (some false)) else (if a0 < (-1000000000000000) then (if (t1060.size : Int) > 9 then (some (bt1061.2 == 22)) else (some false)) else (if bt1061.1 = a0 then (if bt1061.2 = 0 then (some (decide ((t1060.size : Int) > 0))) else (some false)) else (some false))))) = some r := H
 have A2 := Aside0.mk A20; clear A20
 replace H := Option.bind_eq_some_iff.mp H
 obtain ⟨⟨t1061, t1062⟩, A30, H⟩ := H
 replace H : (if a0 > 1000000000000000 then (if (t1060.size : Int) > 9 then (some (t1062 == 22)) else (some false)) else (if a0 < (-1000000000000000) then (if (t1060.size : Int) > 9 then (some (t1062 == 22)) else (some false)) else (if t1061 = a0 then (if t1062 = 0 then (some (decide ((t1060.size : Int) > 0))) else (some false)) else (some false)))) = some r := H
 have A3 := Aside0.mk A30; clear A30
 by_cases c4 : a0 > 1000000000000000
 · rw [if_pos c4] at H
   have c4b0 : decide (1000000000000000 < a0) = true := decide_eq_true c4; clear c4
   by_cases c5 : (t1060.size : Int) > 9
   · rw [if_pos c5] at H
     have c5b0 : decide (9 < (t1060.size : Int)) = true := decide_eq_true c5; have c5b1 : decide (9 < t1060.size) = true := decide_eq_true (by omega); clear c5
     obtain rfl := Option.some.inj H
     go_enter Tryd.func20, Tryd.ntmps20
     go_wp2_with (first | ((with_reducible refine gate_callee (f := 56) rfl ?_); refine goesL_ (some 7) rfl rfl Tryd.func56 (by kernel_rfl) rfl #[.int .i64 a0] rfl rf ?_; (with_reducible refine (micro_Print.calls k a0 t1060 _ (tN hT) A2.out).mono ?_); rintro e w6 ⟨rfl, hb⟩; refine ⟨_, rfl, ?_⟩; replace HB := am (below_step bz hb); (try clear hb); (try clear hb2); (try clear hk); (try clear hi)) | ((with_reducible refine gate_callee (f := 59) rfl ?_); refine goesL_ (some 10) rfl rfl Tryd.func59 (by kernel_rfl) rfl #[.string t1060] rfl rf ?_; (with_reducible refine (micro_Parse.calls k t1060 t1061 t1062 _ A3.out).mono ?_); rintro e w7 ⟨rfl, hb⟩; refine ⟨_, rfl, ?_⟩; replace HB := am (below_step bz hb); (try clear hb); (try clear hb2); (try clear hk); (try clear hi)))
     go_ret
     exact ⟨rg, by repeat (first | (with_reducible first | exact HB.out | apply dA | apply dB | apply dC) | exact HB.out)⟩
   · rw [if_neg c5] at H
     have c5b0 : decide (9 < (t1060.size : Int)) = false := decide_eq_false c5; have c5b1 : decide (9 < t1060.size) = false := decide_eq_false (by omega); clear c5
     exact Bool.noConfusion ((Option.some.inj H).trans hr_.out)
 · rw [if_neg c4] at H
   have c4b0 : decide (1000000000000000 < a0) = false := decide_eq_false c4; clear c4
   by_cases c8 : a0 < (-1000000000000000)
   · rw [if_pos c8] at H
     have c8b0 : decide (a0 < (-1000000000000000)) = true := decide_eq_true c8; clear c8
     by_cases c9 : (t1060.size : Int) > 9
     · rw [if_pos c9] at H
       have c9b0 : decide (9 < (t1060.size : Int)) = true := decide_eq_true c9; have c9b1 : decide (9 < t1060.size) = true := decide_eq_true (by omega); clear c9
       obtain rfl := Option.some.inj H
       go_enter Tryd.func20, Tryd.ntmps20
       go_wp2_with (first | ((with_reducible refine gate_callee (f := 56) rfl ?_); refine goesL_ (some 7) rfl rfl Tryd.func56 (by kernel_rfl) rfl #[.int .i64 a0] rfl rf ?_; (with_reducible refine (micro_Print.calls k a0 t1060 _ (tN hT) A2.out).mono ?_); rintro e w10 ⟨rfl, hb⟩; refine ⟨_, rfl, ?_⟩; replace HB := am (below_step bz hb); (try clear hb); (try clear hb2); (try clear hk); (try clear hi)) | ((with_reducible refine gate_callee (f := 59) rfl ?_); refine goesL_ (some 10) rfl rfl Tryd.func59 (by kernel_rfl) rfl #[.string t1060] rfl rf ?_; (with_reducible refine (micro_Parse.calls k t1060 t1061 t1062 _ A3.out).mono ?_); rintro e w11 ⟨rfl, hb⟩; refine ⟨_, rfl, ?_⟩; replace HB := am (below_step bz hb); (try clear hb); (try clear hb2); (try clear hk); (try clear hi)))
       go_ret
       exact ⟨rg, by repeat (first | (with_reducible first | exact HB.out | apply dA | apply dB | apply dC) | exact HB.out)⟩
     · rw [if_neg c9] at H
       have c9b0 : decide (9 < (t1060.size : Int)) = false := decide_eq_false c9; have c9b1 : decide (9 < t1060.size) = false := decide_eq_false (by omega); clear c9
       exact Bool.noConfusion ((Option.some.inj H).trans hr_.out)
   · rw [if_neg c8] at H
     have c8b0 : decide (a0 < (-1000000000000000)) = false := decide_eq_false c8; clear c8
     by_cases c12 : t1061 = a0
     · rw [if_pos c12] at H
       have c12b0 : (t1061 == a0) = true := beq_iff_eq.mpr c12; have c12b1 : (t1061 != a0) = false := bne_eq_false_iff_eq.mpr c12; clear c12
       by_cases c13 : t1062 = 0
       · rw [if_pos c13] at H
         have c13b0 : (t1062 == 0) = true := beq_iff_eq.mpr c13; have c13b1 : (t1062 != 0) = false := bne_eq_false_iff_eq.mpr c13; clear c13
         obtain rfl := Option.some.inj H
         go_enter Tryd.func20, Tryd.ntmps20
         go_wp2_with (first | ((with_reducible refine gate_callee (f := 56) rfl ?_); refine goesL_ (some 7) rfl rfl Tryd.func56 (by kernel_rfl) rfl #[.int .i64 a0] rfl rf ?_; (with_reducible refine (micro_Print.calls k a0 t1060 _ (tN hT) A2.out).mono ?_); rintro e w14 ⟨rfl, hb⟩; refine ⟨_, rfl, ?_⟩; replace HB := am (below_step bz hb); (try clear hb); (try clear hb2); (try clear hk); (try clear hi)) | ((with_reducible refine gate_callee (f := 59) rfl ?_); refine goesL_ (some 10) rfl rfl Tryd.func59 (by kernel_rfl) rfl #[.string t1060] rfl rf ?_; (with_reducible refine (micro_Parse.calls k t1060 t1061 t1062 _ A3.out).mono ?_); rintro e w15 ⟨rfl, hb⟩; refine ⟨_, rfl, ?_⟩; replace HB := am (below_step bz hb); (try clear hb); (try clear hb2); (try clear hk); (try clear hi)))
         go_ret
         exact ⟨rg, by repeat (first | (with_reducible first | exact HB.out | apply dA | apply dB | apply dC) | exact HB.out)⟩
       · rw [if_neg c13] at H
         have c13b0 : (t1062 == 0) = false := beq_eq_false_iff_ne.mpr c13; have c13b1 : (t1062 != 0) = true := bne_iff_ne.mpr c13
         exact Bool.noConfusion ((Option.some.inj H).trans hr_.out)
     · rw [if_neg c12] at H
       have c12b0 : (t1061 == a0) = false := beq_eq_false_iff_ne.mpr c12; have c12b1 : (t1061 != a0) = true := bne_iff_ne.mpr c12
       exact Bool.noConfusion ((Option.some.inj H).trans hr_.out)

/-- THE ONE PURE STATEMENT of tumblerlaw02_MicroBack: yours. -/
def tumblerlaw02_MicroBack.Pure : Prop := ∀ (a0 : Int), (Lit.int .i64 a0).wf = true → ∃ k, tumblerlaw02_MicroBack.f k a0 = some true
theorem tumblerlaw02_MicroBack.walk (P : tumblerlaw02_MicroBack.Pure) (a0 : Int) (w : World) (hT : Aside0 (WF w)) (w0 : (Lit.int .i64 a0).wf = true) :
 Calls Tryd.prog 20 #[.int .i64 a0] w fun e w' => e = .returned (.bool true) ∧ Below w.heap.size w w' := by
 obtain ⟨k, h⟩ := P a0 w0
 refine (tumblerlaw02_MicroBack.calls k a0 true w hT ⟨rfl⟩ h).mono ?_
 rintro e w' ⟨rfl, hd⟩
 exact ⟨rfl, hd⟩

end Go.Proofs.YtcfhmbhlibhlnaaDoor.P
