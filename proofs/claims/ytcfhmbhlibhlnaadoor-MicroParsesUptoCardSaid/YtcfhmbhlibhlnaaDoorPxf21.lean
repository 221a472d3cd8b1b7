-- Printed by this session's own pp.py (wip/tool) out of the translation.
import Derived.Test.YtcfhmbhlibhlnaaDoorPx0
import Derived.Test.YtcfhmbhlibhlnaaDoorPxf59
import Derived.Test.YtcfhmbhlibhlnaaDoorPxf60
import Derived.Test.YtcfhmbhlibhlnaaDoorPxf61
namespace Go.Proofs.YtcfhmbhlibhlnaaDoor.P
open Go.RowKit Go.Proofs.YtcfhmbhlibhlnaaDoorW.PrintWords Go.Proofs.YtcfhmbhlibhlnaaDoorW.PrintLast Go.Proofs.YtcfhmbhlibhlnaaDoorW.PrintMore Go.Proofs.YtcfhmbhlibhlnaaDoor.Mine
attribute [local go_sem] ext71 ext79 eqA61 eqA62
attribute [local go_sem] max2_int min2_int max_two min_two max_three min_three max_four min_four   -- for this text's walks alone
set_option linter.unusedVariables false
set_option linter.unusedSimpArgs false

/-! ### tumblerlaw02_MicroParses: function 21 -/
def tumblerlaw02_MicroParses.f (k : Nat) (a0 : ByteArray) : Option (Bool) := (micro_Parse.f k a0).bind fun bt1108 => ((tumblerref02_Parse.f k a0).bind fun bt1110 => ((tumblerlaw02_awake.f k).bind fun t1112 => (if t1112 = true then (if bt1108.1 = bt1110.1 then (some (bt1108.2 == bt1110.2)) else (some false)) else (some false))))
theorem tumblerlaw02_MicroParses.mono : ∀ a0 k, LeO (tumblerlaw02_MicroParses.f k a0) (tumblerlaw02_MicroParses.f (k + 1) a0) := by
 intro a0 k
 unfold tumblerlaw02_MicroParses.f
 repeat' first
  | (with_reducible exact micro_Parse.mono _ _)
  | (with_reducible exact tumblerlaw02_awake.mono _)
  | (with_reducible exact tumblerref02_Parse.mono _ _)
  | (with_reducible exact LeO.refl _)
  | (with_reducible exact LeO.none _)
  | (with_reducible refine LeO.ite ?_ ?_)
  | (with_reducible refine LeO.bind ?_ (fun _ => ?_))
  | exact micro_Parse.mono _ _
  | exact tumblerlaw02_awake.mono _
  | exact tumblerref02_Parse.mono _ _
  | exact LeO.none _
  | refine LeO.ite ?_ ?_
  | refine LeO.bind ?_ (fun _ => ?_)
set_option maxHeartbeats 8000000 in
set_option maxRecDepth 100000 in
theorem tumblerlaw02_MicroParses.calls (k : Nat) (a0 : ByteArray) (r : Bool) (w : World) (hT : Aside0 (WF w)) (hr_ : Aside0 (r = true)) (h : tumblerlaw02_MicroParses.f k a0 = some r) :
 Calls Tryd.prog 21 #[.string a0] w fun e w' => e = .returned (.bool r) ∧ Below w.heap.size w w' := by
 have HB := am (Below.refl w.heap.size w); have H : ((micro_Parse.f k a0).bind fun bt1108 => ((tumblerref02_Parse.f k a0).bind fun bt1110 => ((tumblerlaw02_awake.f k).bind fun t1112 => (if t1112 = true then (if bt1108.1 = bt1110.1 then (some (bt1108.2 == bt1110.2)) else (some false)) else (some false))))) = some r := h; clear h
 replace H := Option.bind_eq_some_iff.mp H
 obtain ⟨⟨t1108, t1109⟩, A20, H⟩ := H
 replace H : ((tumblerref02_Parse.f k a0).bind fun bt1110 => ((tumblerlaw02_awake.f k).bind fun t1112 => (if t1112 = true then (if t1108 = bt1110.1 then (some (t1109 == bt1110.2)) else (some false)) else (some false)))) = some r := H
 have A2 := Aside0.mk A20; clear A20
 replace H := Option.bind_eq_some_iff.mp H
 obtain ⟨⟨t1110, t1111⟩, A30, H⟩ := H
 replace H : ((tumblerlaw02_awake.f k).bind fun t1112 => (if t1112 = true then (if t1108 = t1110 then (some (t1109 == t1111)) else (some false)) else (some false))) = some r := H
 have A3 := Aside0.mk A30; clear A30
 replace H := Option.bind_eq_some_iff.mp H
 obtain ⟨t1112, A40, H⟩ := H
 replace H : (if t1112 = true then (if t1108 = t1110 then (some (t1109 == t1111)) else (some false)) else (some false)) = some r := H
 have A4 := Aside0.mk A40; clear A40
 by_cases c5 : t1112 = true
 · subst c5
   have H1 : (if t1108 = t1110 then (some (t1109 == t1111)) else (some false)) = some r := by rw [if_pos rfl] at H; exact H
   clear H; have H := H1; clear H1
   by_cases c6 : t1108 = t1110
   · rw [if_pos c6] at H
     have c6b0 : (t1108 == t1110) = true := beq_iff_eq.mpr c6; have c6b1 : (t1108 != t1110) = false := bne_eq_false_iff_eq.mpr c6; clear c6
     obtain rfl := Option.some.inj H
     go_enter Tryd.func21, Tryd.ntmps21
     go_wp2_with (first | ((with_reducible refine gate_callee (f := 59) rfl ?_); refine goesL_ (some 9) rfl rfl Tryd.func59 (by kernel_rfl) rfl #[.string a0] rfl rf ?_; (with_reducible refine (micro_Parse.calls k a0 t1108 t1109 _ A2.out).mono ?_); rintro e w7 ⟨rfl, hb⟩; refine ⟨_, rfl, ?_⟩; replace HB := am (below_step bz hb); (try clear hb); (try clear hb2); (try clear hk); (try clear hi)) | ((with_reducible refine gate_callee (f := 60) rfl ?_); refine goesL_ (some 14) rfl rfl Tryd.func60 (by kernel_rfl) rfl #[.string a0] rfl rf ?_; (with_reducible refine (tumblerref02_Parse.calls k a0 t1110 t1111 _ A3.out).mono ?_); rintro e w8 ⟨rfl, hb⟩; refine ⟨_, rfl, ?_⟩; replace HB := am (below_step bz hb); (try clear hb); (try clear hb2); (try clear hk); (try clear hi)) | ((with_reducible refine gate_callee (f := 61) rfl ?_); refine goesL_ (some 17) rfl rfl Tryd.func61 (by kernel_rfl) rfl #[] rfl rf ?_; (with_reducible refine (tumblerlaw02_awake.calls k  true _ (tN hT) A4.out).mono ?_); rintro e w9 ⟨rfl, hb⟩; refine ⟨_, rfl, ?_⟩; replace HB := am (below_step bz hb); (try clear hb); (try clear hb2); (try clear hk); (try clear hi)))
     go_ret
     exact ⟨rg, by repeat (first | (with_reducible first | exact HB.out | apply dA | apply dB | apply dC) | exact HB.out)⟩
   · rw [if_neg c6] at H
     have c6b0 : (t1108 == t1110) = false := beq_eq_false_iff_ne.mpr c6; have c6b1 : (t1108 != t1110) = true := bne_iff_ne.mpr c6
     exact Bool.noConfusion ((Option.some.inj H).trans hr_.out)
 · replace c5 := Bool.eq_false_iff.mpr c5
   subst c5
   have H1 : (some false) = some r := by rw [if_neg (show ¬ (false = true) by decide)] at H; exact H
   clear H; have H := H1; clear H1
   exact Bool.noConfusion ((Option.some.inj H).trans hr_.out)

/-- THE ONE PURE STATEMENT of tumblerlaw02_MicroParses: yours. -/
def tumblerlaw02_MicroParses.Pure : Prop := ∀ (a0 : ByteArray), a0.size ≤ 1048576 → ∃ k, tumblerlaw02_MicroParses.f k a0 = some true
theorem tumblerlaw02_MicroParses.walk (P : tumblerlaw02_MicroParses.Pure) (a0 : ByteArray) (w : World) (hT : Aside0 (WF w)) (w0 : a0.size ≤ 1048576) :
 Calls Tryd.prog 21 #[.string a0] w fun e w' => e = .returned (.bool true) ∧ Below w.heap.size w w' := by
 obtain ⟨k, h⟩ := P a0 w0
 refine (tumblerlaw02_MicroParses.calls k a0 true w hT ⟨rfl⟩ h).mono ?_
 rintro e w' ⟨rfl, hd⟩
 exact ⟨rfl, hd⟩

end Go.Proofs.YtcfhmbhlibhlnaaDoor.P
