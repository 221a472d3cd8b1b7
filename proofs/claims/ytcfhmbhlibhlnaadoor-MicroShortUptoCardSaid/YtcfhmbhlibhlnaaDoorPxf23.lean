-- Printed by this session's own pp.py (wip/tool) out of the translation.
import Derived.Test.YtcfhmbhlibhlnaaDoorPx0
import Derived.Test.YtcfhmbhlibhlnaaDoorPxf56
import Derived.Test.YtcfhmbhlibhlnaaDoorPxf59
import Derived.Test.YtcfhmbhlibhlnaaDoorPxf61
namespace Go.Proofs.YtcfhmbhlibhlnaaDoor.P
open Go.RowKit Go.Proofs.YtcfhmbhlibhlnaaDoorW.PrintWords Go.Proofs.YtcfhmbhlibhlnaaDoorW.PrintLast Go.Proofs.YtcfhmbhlibhlnaaDoorW.PrintMore Go.Proofs.YtcfhmbhlibhlnaaDoor.Mine
attribute [local go_sem] ext71 ext79 eqA61 eqA62
attribute [local go_sem] max2_int min2_int max_two min_two max_three min_three max_four min_four   -- for this text's walks alone
set_option linter.unusedVariables false
set_option linter.unusedSimpArgs false

/-! ### tumblerlaw02_MicroShort: function 23 -/
def tumblerlaw02_MicroShort.f (k : Nat) (a0 : ByteArray) : Option (Bool) := (tumblerlaw02_awake.f k).bind fun t1139 => (if t1139 = true then ((micro_Parse.f k a0).bind fun bt1140 => (if bt1140.2 = 0 then ((micro_Print.f k bt1140.1).bind fun t1142 => ((micro_Parse.f k t1142).bind fun bt1143 => (if (t1142.size : Int) > 0 then (if (t1142.size : Int) ≤ (a0.size : Int) then (if bt1143.1 = bt1140.1 then (some (bt1143.2 == 0)) else (some false)) else (some false)) else (some false)))) else (some (bt1140.1 == 0)))) else (some false))
theorem tumblerlaw02_MicroShort.mono : ∀ a0 k, LeO (tumblerlaw02_MicroShort.f k a0) (tumblerlaw02_MicroShort.f (k + 1) a0) := by
 intro a0 k
 unfold tumblerlaw02_MicroShort.f
 repeat' first
  | (with_reducible exact micro_Parse.mono _ _)
  | (with_reducible exact micro_Print.mono _ _)
  | (with_reducible exact tumblerlaw02_awake.mono _)
  | (with_reducible exact LeO.refl _)
  | (with_reducible exact LeO.none _)
  | (with_reducible refine LeO.ite ?_ ?_)
  | (with_reducible refine LeO.bind ?_ (fun _ => ?_))
  | exact micro_Parse.mono _ _
  | exact micro_Print.mono _ _
  | exact tumblerlaw02_awake.mono _
  | exact LeO.none _
  | refine LeO.ite ?_ ?_
  | refine LeO.bind ?_ (fun _ => ?_)
set_option maxHeartbeats 8000000 in
set_option maxRecDepth 100000 in
theorem tumblerlaw02_MicroShort.calls (k : Nat) (a0 : ByteArray) (r : Bool) (w : World) (hT : Aside0 (WF w)) (hr_ : Aside0 (r = true)) (h : tumblerlaw02_MicroShort.f k a0 = some r) :
 Calls Tryd.prog 23 #[.string a0] w fun e w' => e = .returned (.bool r) ∧ Below w.heap.size w w' := by
 have HB := am (Below.refl w.heap.size w); have H : ((tumblerlaw02_awake.f k).bind fun t1139 => (if t1139 = true then ((micro_Parse.f k a0).bind fun bt1140 => (if bt1140.2 = 0 then ((micro_Print.f k bt1140.1).bind fun t1142 => ((micro_Parse.f k t1142).bind fun bt1143 => (if (t1142.size : Int) > 0 then (if (t1142.size : Int) ≤ (a0.size : Int) then (if bt1143.1 = bt1140.1 then (some (bt1143.2 == 0)) else (some false)) else (some false)) else (some false)))) else (some (bt1140.1 == 0)))) else (some false))) = some r := h; clear h
 replace H := Option.bind_eq_some_iff.mp H
 obtain ⟨t1139, A20, H⟩ := H
 replace H : (if t1139 = true then ((micro_Parse.f k a0).bind fun bt1140 => (if bt1140.2 = 0 then ((micro_Print.f k bt1140.1).bind fun t1142 => ((micro_Parse.f k t1142).bind fun bt1143 => (if (t1142.size : Int) > 0 then (if (t1142.size : Int) ≤ (a0.size : Int) then (if bt1143.1 = bt1140.1 then (some (bt1143.2 == 0)) else (some false)) else (some false)) else (some false)))) else (some (bt1140.1 == 0)))) else (some false)) = some r := H
 have A2 := Aside0.mk A20; clear A20
 by_cases c3 : t1139 = true
 · subst c3
   have H1 : ((micro_Parse.f k a0).bind fun bt1140 => (if bt1140.2 = 0 then ((micro_Print.f k bt1140.1).bind fun t1142 => ((micro_Parse.f k t1142).bind fun bt1143 => (if (t1142.size : Int) > 0 then (if (t1142.size : Int) ≤ (a0.size : Int) then (if bt1143.1 = bt1140.1 then (some (bt1143.2 == 0)) else (some false)) else (some false)) else (some false)))) else (some (bt1140.1 == 0)))) = some r := by rw [if_pos rfl] at H; exact H
   clear H; have H := H1; clear H1
   replace H := Option.bind_eq_some_iff.mp H
   obtain ⟨⟨t1140, t1141⟩, A40, H⟩ := H
   replace H : (if t1141 = 0 then ((micro_Print.f k t1140).bind fun t1142 => ((micro_Parse.f k t1142).bind fun bt1143 => (if (t1142.size : Int) > 0 then (if (t1142.size : Int) ≤ (a0.size : Int) then (if bt1143.1 = t1140 then (some (bt1143.2 == 0)) else (some false)) else (some false)) else (some false)))) else (some (t1140 == 0))) = some r := H
   have A4 := Aside0.mk A40; clear A40
   by_cases c5 : t1141 = 0
   · rw [if_pos c5] at H
     have c5b0 : (t1141 == 0) = true := beq_iff_eq.mpr c5; have c5b1 : (t1141 != 0) = false := bne_eq_false_iff_eq.mpr c5; clear c5
     replace H := Option.bind_eq_some_iff.mp H
     obtain ⟨t1142, A60, H⟩ := H
     replace H : ((micro_Parse.f k t1142).bind fun bt1143 => (if (t1142.size : Int) > 0 then (if (t1142.size : Int) ≤ (a0.size : Int) then (if bt1143.1 = t1140 then (some (bt1143.2 == 0)) else (some false)) else (some false)) else (some false))) = some r := H
     have A6 := Aside0.mk A60; clear A60
     replace H := Option.bind_eq_some_iff.mp H
     obtain ⟨⟨t1143, t1144⟩, A70, H⟩ := H
     replace H : (if (t1142.size : Int) > 0 then (if (t1142.size : Int) ≤ (a0.size : Int) then (if t1143 = t1140 then (some (t1144 == 0)) else (some false)) else (some false)) else (some false)) = some r := H
     have A7 := Aside0.mk A70; clear A70
     by_cases c8 : (t1142.size : Int) > 0
     · rw [if_pos c8] at H
       have c8b0 : decide (0 < (t1142.size : Int)) = true := decide_eq_true c8; have c8b1 : decide (0 < t1142.size) = true := decide_eq_true (by omega); clear c8
       by_cases c9 : (t1142.size : Int) ≤ (a0.size : Int)
       · rw [if_pos c9] at H
         have c9b0 : decide ((t1142.size : Int) ≤ (a0.size : Int)) = true := decide_eq_true c9; have c9b1 : decide (t1142.size ≤ a0.size) = true := decide_eq_true (Int.ofNat_le.mp c9); clear c9
         by_cases c10 : t1143 = t1140
         · rw [if_pos c10] at H
           have c10b0 : (t1143 == t1140) = true := beq_iff_eq.mpr c10; have c10b1 : (t1143 != t1140) = false := bne_eq_false_iff_eq.mpr c10; clear c10
           obtain rfl := Option.some.inj H
           go_enter Tryd.func23, Tryd.ntmps23
           go_wp2_with (first | ((with_reducible refine gate_callee (f := 61) rfl ?_); refine goesL_ (some 8) rfl rfl Tryd.func61 (by kernel_rfl) rfl #[] rfl rf ?_; (with_reducible refine (tumblerlaw02_awake.calls k  true _ (tN hT) A2.out).mono ?_); rintro e w11 ⟨rfl, hb⟩; refine ⟨_, rfl, ?_⟩; replace HB := am (below_step bz hb); (try clear hb); (try clear hb2); (try clear hk); (try clear hi)) | ((with_reducible refine gate_callee (f := 59) rfl ?_); refine goesL_ (some 12) rfl rfl Tryd.func59 (by kernel_rfl) rfl #[.string a0] rfl rf ?_; (with_reducible refine (micro_Parse.calls k a0 t1140 t1141 _ A4.out).mono ?_); rintro e w12 ⟨rfl, hb⟩; refine ⟨_, rfl, ?_⟩; replace HB := am (below_step bz hb); (try clear hb); (try clear hb2); (try clear hk); (try clear hi)) | ((with_reducible refine gate_callee (f := 56) rfl ?_); refine goesL_ (some 20) rfl rfl Tryd.func56 (by kernel_rfl) rfl #[.int .i64 t1140] rfl rf ?_; (with_reducible refine (micro_Print.calls k t1140 t1142 _ (tN hT) A6.out).mono ?_); rintro e w13 ⟨rfl, hb⟩; refine ⟨_, rfl, ?_⟩; replace HB := am (below_step bz hb); (try clear hb); (try clear hb2); (try clear hk); (try clear hi)) | ((with_reducible refine gate_callee (f := 59) rfl ?_); refine goesL_ (some 23) rfl rfl Tryd.func59 (by kernel_rfl) rfl #[.string t1142] rfl rf ?_; (with_reducible refine (micro_Parse.calls k t1142 t1143 t1144 _ A7.out).mono ?_); rintro e w14 ⟨rfl, hb⟩; refine ⟨_, rfl, ?_⟩; replace HB := am (below_step bz hb); (try clear hb); (try clear hb2); (try clear hk); (try clear hi)))
           go_ret
           exact ⟨rg, by repeat (first | (with_reducible first | exact HB.out | apply dA | apply dB | apply dC) | exact HB.out)⟩
         · rw [if_neg c10] at H
           have c10b0 : (t1143 == t1140) = false := beq_eq_false_iff_ne.mpr c10; have c10b1 : (t1143 != t1140) = true := bne_iff_ne.mpr c10
           exact Bool.noConfusion ((Option.some.inj H).trans hr_.out)
       · rw [if_neg c9] at H
         have c9b0 : decide ((t1142.size : Int) ≤ (a0.size : Int)) = false := decide_eq_false c9; have c9b1 : decide (t1142.size ≤ a0.size) = false := decide_eq_false (fun h => c9 (Int.ofNat_le.mpr h)); clear c9
         exact Bool.noConfusion ((Option.some.inj H).trans hr_.out)
     · rw [if_neg c8] at H
       have c8b0 : decide (0 < (t1142.size : Int)) = false := decide_eq_false c8; have c8b1 : decide (0 < t1142.size) = false := decide_eq_false (by omega); clear c8
       exact Bool.noConfusion ((Option.some.inj H).trans hr_.out)
   · rw [if_neg c5] at H
     have c5b0 : (t1141 == 0) = false := beq_eq_false_iff_ne.mpr c5; have c5b1 : (t1141 != 0) = true := bne_iff_ne.mpr c5
     obtain rfl := Option.some.inj H
     go_enter Tryd.func23, Tryd.ntmps23
     go_wp2_with (first | ((with_reducible refine gate_callee (f := 61) rfl ?_); refine goesL_ (some 8) rfl rfl Tryd.func61 (by kernel_rfl) rfl #[] rfl rf ?_; (with_reducible refine (tumblerlaw02_awake.calls k  true _ (tN hT) A2.out).mono ?_); rintro e w15 ⟨rfl, hb⟩; refine ⟨_, rfl, ?_⟩; replace HB := am (below_step bz hb); (try clear hb); (try clear hb2); (try clear hk); (try clear hi)) | ((with_reducible refine gate_callee (f := 59) rfl ?_); refine goesL_ (some 12) rfl rfl Tryd.func59 (by kernel_rfl) rfl #[.string a0] rfl rf ?_; (with_reducible refine (micro_Parse.calls k a0 t1140 t1141 _ A4.out).mono ?_); rintro e w16 ⟨rfl, hb⟩; refine ⟨_, rfl, ?_⟩; replace HB := am (below_step bz hb); (try clear hb); (try clear hb2); (try clear hk); (try clear hi)))
     go_ret
     exact ⟨rg, by repeat (first | (with_reducible first | exact HB.out | apply dA | apply dB | apply dC) | exact HB.out)⟩
 · replace c3 := Bool.eq_false_iff.mpr c3
   subst c3
   have H1 : (some false) = some r := by rw [if_neg (show ¬ (false = true) by decide)] at H; exact H
   clear H; have H := H1; clear H1
   exact Bool.noConfusion ((Option.some.inj H).trans hr_.out)

/-- THE ONE PURE STATEMENT of tumblerlaw02_MicroShort: yours. -/
def tumblerlaw02_MicroShort.Pure : Prop := ∀ (a0 : ByteArray), a0.size ≤ 1048576 → ∃ k, tumblerlaw02_MicroShort.f k a0 = some true
theorem tumblerlaw02_MicroShort.walk (P : tumblerlaw02_MicroShort.Pure) (a0 : ByteArray) (w : World) (hT : Aside0 (WF w)) (w0 : a0.size ≤ 1048576) :
 Calls Tryd.prog 23 #[.string a0] w fun e w' => e = .returned (.bool true) ∧ Below w.heap.size w w' := by
 obtain ⟨k, h⟩ := P a0 w0
 refine (tumblerlaw02_MicroShort.calls k a0 true w hT ⟨rfl⟩ h).mono ?_
 rintro e w' ⟨rfl, hd⟩
 exact ⟨rfl, hd⟩

end Go.Proofs.YtcfhmbhlibhlnaaDoor.P
