-- Printed by this session's own pp.py (wip/tool) out of the translation.
import Derived.Test.YtcfhmbhlibhlnaaDoorPx0
import Derived.Test.YtcfhmbhlibhlnaaDoorPxf56
import Derived.Test.YtcfhmbhlibhlnaaDoorPxf57
namespace Go.Proofs.YtcfhmbhlibhlnaaDoor.P
open Go.RowKit Go.Proofs.YtcfhmbhlibhlnaaDoorW.PrintWords Go.Proofs.YtcfhmbhlibhlnaaDoorW.PrintLast Go.Proofs.YtcfhmbhlibhlnaaDoorW.PrintMore Go.Proofs.YtcfhmbhlibhlnaaDoor.Mine
attribute [local go_sem] ext71 ext79 eqA61 eqA62
attribute [local go_sem] max2_int min2_int max_two min_two max_three min_three max_four min_four   -- for this text's walks alone
set_option linter.unusedVariables false
set_option linter.unusedSimpArgs false

/-! ### tumblerlaw02_MicroPrints: function 18 -/
def tumblerlaw02_MicroPrints.f (k : Nat) (a0 : Int) : Option (Bool) := (micro_Print.f k a0).bind fun t1007 => ((tumblerref02_Print.f k a0).bind fun t1008 => (some (t1007.toList == t1008.toList)))
theorem tumblerlaw02_MicroPrints.mono : ∀ a0 k, LeO (tumblerlaw02_MicroPrints.f k a0) (tumblerlaw02_MicroPrints.f (k + 1) a0) := by
 intro a0 k
 unfold tumblerlaw02_MicroPrints.f
 repeat' first
  | (with_reducible exact micro_Print.mono _ _)
  | (with_reducible exact tumblerref02_Print.mono _ _)
  | (with_reducible exact LeO.refl _)
  | (with_reducible exact LeO.none _)
  | (with_reducible refine LeO.ite ?_ ?_)
  | (with_reducible refine LeO.bind ?_ (fun _ => ?_))
  | exact micro_Print.mono _ _
  | exact tumblerref02_Print.mono _ _
  | exact LeO.none _
  | refine LeO.ite ?_ ?_
  | refine LeO.bind ?_ (fun _ => ?_)
set_option maxHeartbeats 8000000 in
set_option maxRecDepth 100000 in
theorem tumblerlaw02_MicroPrints.calls (k : Nat) (a0 : Int) (r : Bool) (w : World) (hT : Aside0 (WF w)) (hr_ : Aside0 (r = true)) (h : tumblerlaw02_MicroPrints.f k a0 = some r) :
 Calls Tryd.prog 18 #[.int .i64 a0] w fun e w' => e = .returned (.bool r) ∧ Below w.heap.size w w' := by
 have HB := am (Below.refl w.heap.size w); have H : ((micro_Print.f k a0).bind fun t1007 => ((tumblerref02_Print.f k a0).bind fun t1008 => (some (t1007.toList == t1008.toList)))) = some r := h; clear h
 replace H := Option.bind_eq_some_iff.mp H
 obtain ⟨t1007, A20, H⟩ := H
 replace H : ((tumblerref02_Print.f k a0).bind fun t1008 => (some (t1007.toList == t1008.toList))) = some r := H
 have A2 := Aside0.mk A20; clear A20
 replace H := Option.bind_eq_some_iff.mp H
 obtain ⟨t1008, A30, H⟩ := H
 replace H : (some (t1007.toList == t1008.toList)) = some r := H
 have A3 := Aside0.mk A30; clear A30
 obtain rfl := Option.some.inj H
 go_enter Tryd.func18, Tryd.ntmps18
 go_wp2_with (first | ((with_reducible refine gate_callee (f := 56) rfl ?_); refine goesL_ (some 4) rfl rfl Tryd.func56 (by kernel_rfl) rfl #[.int .i64 a0] rfl (by (try simp only [List.map_toArray, List.map_cons, List.map_nil]); first | done | rfl | (simp only [List.length_drop, List.length_take]; rfl)) ?_; (with_reducible refine (micro_Print.calls k a0 t1007 _ (tN hT) A2.out).mono ?_); rintro e w4 ⟨rfl, hb⟩; refine ⟨_, rfl, ?_⟩; have n0_ := am (below_step bz hb); clear HB; have HB := n0_; clear n0_; (try clear hb); (try clear hb2); (try clear hk); (try clear hi)) | ((with_reducible refine gate_callee (f := 57) rfl ?_); refine goesL_ (some 6) rfl rfl Tryd.func57 (by kernel_rfl) rfl #[.int .i64 a0] rfl (by (try simp only [List.map_toArray, List.map_cons, List.map_nil]); first | done | rfl | (simp only [List.length_drop, List.length_take]; rfl)) ?_; (with_reducible refine (tumblerref02_Print.calls k a0 t1008 _ A3.out).mono ?_); rintro e w5 ⟨rfl, hb⟩; refine ⟨_, rfl, ?_⟩; have n0_ := am (below_step bz hb); clear HB; have HB := n0_; clear n0_; (try clear hb); (try clear hb2); (try clear hk); (try clear hi)))
 go_ret
 exact ⟨by first | rfl | (simp [errW_none, errW_some] <;> rfl) | (simp [*, errW_none, errW_some] <;> rfl), by repeat (first | (with_reducible first | exact HB.out | apply dA | apply dB | apply dC) | exact HB.out)⟩

/-- THE ONE PURE STATEMENT of tumblerlaw02_MicroPrints: yours. -/
def tumblerlaw02_MicroPrints.Pure : Prop := ∀ (a0 : Int), (Lit.int .i64 a0).wf = true → ∃ k, tumblerlaw02_MicroPrints.f k a0 = some true
theorem tumblerlaw02_MicroPrints.walk (P : tumblerlaw02_MicroPrints.Pure) (a0 : Int) (w : World) (hT : Aside0 (WF w)) (w0 : (Lit.int .i64 a0).wf = true) :
 Calls Tryd.prog 18 #[.int .i64 a0] w fun e w' => e = .returned (.bool true) ∧ Below w.heap.size w w' := by
 obtain ⟨k, h⟩ := P a0 w0
 refine (tumblerlaw02_MicroPrints.calls k a0 true w hT ⟨rfl⟩ h).mono ?_
 rintro e w' ⟨rfl, hd⟩
 exact ⟨rfl, hd⟩

end Go.Proofs.YtcfhmbhlibhlnaaDoor.P
