-- Printed by this session's own pp.py (wip/tool) out of the translation.
import Derived.Test.YtifhebempfjcmaaPx0
import Derived.Test.YtifhebempfjcmaaPxf18
import Derived.Test.YtifhebempfjcmaaPxf28
import Derived.Test.YtifhebempfjcmaaPxf26
namespace Go.Proofs.Ytifhebempfjcmaa.P
open Go.RowKit Go.Proofs.YtifhebempfjcmaaW.PrintWords Go.Proofs.YtifhebempfjcmaaW.PrintLast Go.Proofs.YtifhebempfjcmaaW.PrintMore Go.Proofs.Ytifhebempfjcmaa.Mine
attribute [local go_sem] ext45 ext46
attribute [local go_sem] max2_int min2_int max_two min_two max_three min_three max_four min_four   -- for this text's walks alone
set_option linter.unusedVariables false
set_option linter.unusedSimpArgs false

/-! ### tumblerlaw02_MicroSent: function 12 -/
mutual
def tumblerlaw02_MicroSent.j0 : Nat → Int → Int → Int → Bool → Option (Bool)
 | 0, _, _, _, _ => none
 | k + 1, x0, x1, x5, x119 => if x119 = true then (some false) else (if x1 = 1000000 then (tumblerlaw02_MicroSent.j1 k x0 x1 x5 (x5 != x0)) else (tumblerlaw02_MicroSent.j1 k x0 x1 x5 false))
def tumblerlaw02_MicroSent.j1 : Nat → Int → Int → Int → Bool → Option (Bool)
 | 0, _, _, _, _ => none
 | k + 1, x0, x1, x5, x126 => if x126 = true then (some false) else (if x0 < 1000000000000000 then ((micro_Scale.f k (wrap64 (x0 + 1)) x1).bind fun bt437 => (if bt437.2 = 0 then (some (decide (bt437.1 ≥ x5))) else (some false))) else (some true))
end
def tumblerlaw02_MicroSent.f (k : Nat) (a0 : Int) (a1 : Int) : Option (Bool) := (micro_Scale.f k a0 a1).bind fun bt410 => (if bt410.2 = 0 then ((tumblerref02_Of.f a0).bind fun bt414 => ((tumblerref02_Of.f bt410.1).bind fun bt419 => ((tumblerref02_Times.f k bt414.1 bt414.2.1 bt414.2.2.1 1000000).bind fun bt424 => ((tumblerref02_Times.f k bt419.1 bt419.2.1 bt419.2.2.1 (IntKind.u64.wrap (a1))).bind fun bt428 => ((tumblerref02_Of.f (wrap64 (IntKind.u64.wrap (bt424.2.1 - bt428.2.1)))).bind fun bt432 => (if ((decide (bt410.1 < 0)) != (decide (a0 < 0))) = true then (if bt410.1 = 0 then (if bt428.1 > bt424.1 then (tumblerlaw02_MicroSent.j0 k a0 a1 bt410.1 true) else (if bt428.1 = bt424.1 then (if bt428.2.1 > bt424.2.1 then (tumblerlaw02_MicroSent.j0 k a0 a1 bt410.1 true) else (tumblerlaw02_MicroSent.j0 k a0 a1 bt410.1 (decide (bt432.2.1 ≥ (IntKind.u64.wrap (a1)))))) else (tumblerlaw02_MicroSent.j0 k a0 a1 bt410.1 (decide (bt432.2.1 ≥ (IntKind.u64.wrap (a1))))))) else (tumblerlaw02_MicroSent.j0 k a0 a1 bt410.1 true)) else (if bt428.1 > bt424.1 then (tumblerlaw02_MicroSent.j0 k a0 a1 bt410.1 true) else (if bt428.1 = bt424.1 then (if bt428.2.1 > bt424.2.1 then (tumblerlaw02_MicroSent.j0 k a0 a1 bt410.1 true) else (tumblerlaw02_MicroSent.j0 k a0 a1 bt410.1 (decide (bt432.2.1 ≥ (IntKind.u64.wrap (a1)))))) else (tumblerlaw02_MicroSent.j0 k a0 a1 bt410.1 (decide (bt432.2.1 ≥ (IntKind.u64.wrap (a1))))))))))))) else ((micro_Scale.f k 7 1000000).bind fun bt412 => (if bt410.1 = 0 then (if bt412.1 = 7 then (if bt412.2 = 0 then (if a0 > 1000000000000000 then (some true) else (if a0 < (-1000000000000000) then (some true) else (if a1 < 1000 then (some true) else (some (decide (a1 > 1000000)))))) else (some false)) else (some false)) else (some false))))
theorem tumblerlaw02_MicroSent.mono_l : ∀ k, (∀ y0 y1 y2 y3, LeO (tumblerlaw02_MicroSent.j0 k y0 y1 y2 y3) (tumblerlaw02_MicroSent.j0 (k + 1) y0 y1 y2 y3)) ∧ (∀ y0 y1 y2 y3, LeO (tumblerlaw02_MicroSent.j1 k y0 y1 y2 y3) (tumblerlaw02_MicroSent.j1 (k + 1) y0 y1 y2 y3))
 | 0 => ⟨fun _ _ _ _ r h => by simp [tumblerlaw02_MicroSent.j0] at h, fun _ _ _ _ r h => by simp [tumblerlaw02_MicroSent.j1] at h⟩
 | k + 1 => by
  obtain ⟨ih0, ih1⟩ := tumblerlaw02_MicroSent.mono_l k
  refine ⟨?_, ?_⟩
  · intro y0 y1 y2 y3
    unfold tumblerlaw02_MicroSent.j0
    repeat' first
    | (with_reducible exact ih0 _ _ _ _)
    | (with_reducible exact ih1 _ _ _ _)
    | (with_reducible exact micro_Scale.mono _ _ _)
    | (with_reducible exact tumblerref02_Times.mono _ _ _ _ _)
    | (with_reducible exact LeO.refl _)
    | (with_reducible exact LeO.none _)
    | (with_reducible refine LeO.ite ?_ ?_)
    | (with_reducible refine LeO.bind ?_ (fun _ => ?_))
    | exact ih0 _ _ _ _
    | exact ih1 _ _ _ _
    | exact micro_Scale.mono _ _ _
    | exact tumblerref02_Times.mono _ _ _ _ _
    | exact LeO.none _
    | refine LeO.ite ?_ ?_
    | refine LeO.bind ?_ (fun _ => ?_)
  · intro y0 y1 y2 y3
    unfold tumblerlaw02_MicroSent.j1
    repeat' first
    | (with_reducible exact ih0 _ _ _ _)
    | (with_reducible exact ih1 _ _ _ _)
    | (with_reducible exact micro_Scale.mono _ _ _)
    | (with_reducible exact tumblerref02_Times.mono _ _ _ _ _)
    | (with_reducible exact LeO.refl _)
    | (with_reducible exact LeO.none _)
    | (with_reducible refine LeO.ite ?_ ?_)
    | (with_reducible refine LeO.bind ?_ (fun _ => ?_))
    | exact ih0 _ _ _ _
    | exact ih1 _ _ _ _
    | exact micro_Scale.mono _ _ _
    | exact tumblerref02_Times.mono _ _ _ _ _
    | exact LeO.none _
    | refine LeO.ite ?_ ?_
    | refine LeO.bind ?_ (fun _ => ?_)
theorem tumblerlaw02_MicroSent.mono : ∀ a0 a1 k, LeO (tumblerlaw02_MicroSent.f k a0 a1) (tumblerlaw02_MicroSent.f (k + 1) a0 a1) := by
 intro a0 a1 k
 obtain ⟨ih0, ih1⟩ := tumblerlaw02_MicroSent.mono_l k
 unfold tumblerlaw02_MicroSent.f
 repeat' first
  | (with_reducible exact ih0 _ _ _ _)
  | (with_reducible exact ih1 _ _ _ _)
  | (with_reducible exact micro_Scale.mono _ _ _)
  | (with_reducible exact tumblerref02_Times.mono _ _ _ _ _)
  | (with_reducible exact LeO.refl _)
  | (with_reducible exact LeO.none _)
  | (with_reducible refine LeO.ite ?_ ?_)
  | (with_reducible refine LeO.bind ?_ (fun _ => ?_))
  | exact ih0 _ _ _ _
  | exact ih1 _ _ _ _
  | exact micro_Scale.mono _ _ _
  | exact tumblerref02_Times.mono _ _ _ _ _
  | exact LeO.none _
  | refine LeO.ite ?_ ?_
  | refine LeO.bind ?_ (fun _ => ?_)
set_option maxHeartbeats 8000000 in
set_option maxRecDepth 100000 in
theorem tumblerlaw02_MicroSent.calls (k : Nat) (a0 : Int) (a1 : Int) (r : Bool) (w : World) (h : tumblerlaw02_MicroSent.f k a0 a1 = some r) :
 Calls Try.prog 12 #[.int .i64 a0, .int .i64 a1] w fun e w' => e = .returned (.bool r) ∧ Below w.heap.size w w' := by
 have hu35 := Try.underlying35; have HB := am (Below.refl w.heap.size w); have H : ((micro_Scale.f k a0 a1).bind fun bt410 => (if bt410.2 = 0 then ((tumblerref02_Of.f a0).bind fun bt414 => ((tumblerref02_Of.f bt410.1).bind fun bt419 => ((tumblerref02_Times.f k bt414.1 bt414.2.1 bt414.2.2.1 1000000).bind fun bt424 => ((tumblerref02_Times.f k bt419.1 bt419.2.1 bt419.2.2.1 (IntKind.u64.wrap (a1))).bind fun bt428 => ((tumblerref02_Of.f (wrap64 (IntKind.u64.wrap (bt424.2.1 - bt428.2.1)))).bind fun bt432 => (if ((decide (bt410.1 < 0)) != (decide (a0 < 0))) = true then (if bt410.1 = 0 then (if bt428.1 > bt424.1 then (tumblerlaw02_MicroSent.j0 k a0 a1 bt410.1 true) else (if bt428.1 = bt424.1 then (if bt428.2.1 > bt424.2.1 then (tumblerlaw02_MicroSent.j0 k a0 a1 bt410.1 true) else (tumblerlaw02_MicroSent.j0 k a0 a1 bt410.1 (decide (bt432.2.1 ≥ (IntKind.u64.wrap (a1)))))) else (tumblerlaw02_MicroSent.j0 k a0 a1 bt410.1 (decide (bt432.2.1 ≥ (IntKind.u64.wrap (a1))))))) else (tumblerlaw02_MicroSent.j0 k a0 a1 bt410.1 true)) else (if bt428.1 > bt424.1 then (tumblerlaw02_MicroSent.j0 k a0 a1 bt410.1 true) else (if bt428.1 = bt424.1 then (if bt428.2.1 > bt424.2.1 then (tumblerlaw02_MicroSent.j0 k a0 a1 bt410.1 true) else (tumblerlaw02_MicroSent.j0 k a0 a1 bt410.1 (decide (bt432.2.1 ≥ (IntKind.u64.wrap (a1)))))) else (tumblerlaw02_MicroSent.j0 k a0 a1 bt410.1 (decide (bt432.2.1 ≥ (IntKind.u64.wrap (a1))))))))))))) else ((micro_Scale.f k 7 1000000).bind fun bt412 => (if bt410.1 = 0 then (if bt412.1 = 7 then (if bt412.2 = 0 then (if a0 > 1000000000000000 then (some true) else (if a0 < (-1000000000000000) then (some true) else (if a1 < 1000 then (some true) else (some (decide (a1 > 1000000)))))) else (some false)) else (some false)) else (some false))))) = some r := h; clear h
 replace H := Option.bind_eq_some_iff.mp H
 obtain ⟨⟨t410, t411⟩, A30, H⟩ := H
 replace H : (if t411 = 0 then ((tumblerref02_Of.f a0).bind fun bt414 => ((tumblerref02_Of.f t410).bind fun bt419 => ((tumblerref02_Times.f k bt414.1 bt414.2.1 bt414.2.2.1 1000000).bind fun bt424 => ((tumblerref02_Times.f k bt419.1 bt419.2.1 bt419.2.2.1 (IntKind.u64.wrap (a1))).bind fun bt428 => ((tumblerref02_Of.f (wrap64 (IntKind.u64.wrap (bt424.2.1 - bt428.2.1)))).bind fun bt432 => (if ((decide (t410 < 0)) != (decide (a0 < 0))) = true then (if t410 = 0 then (if bt428.1 > bt424.1 then (tumblerlaw02_MicroSent.j0 k a0 a1 t410 true) else (if bt428.1 = bt424.1 then (if bt428.2.1 > bt424.2.1 then (tumblerlaw02_MicroSent.j0 k a0 a1 t410 true) else (tumblerlaw02_MicroSent.j0 k a0 a1 t410 (decide (bt432.2.1 ≥ (IntKind.u64.wrap (a1)))))) else (tumblerlaw02_MicroSent.j0 k a0 a1 t410 (decide (bt432.2.1 ≥ (IntKind.u64.wrap (a1))))))) else (tumblerlaw02_MicroSent.j0 k a0 a1 t410 true)) else (if bt428.1 > bt424.1 then (tumblerlaw02_MicroSent.j0 k a0 a1 t410 true) else (if bt428.1 = bt424.1 then (if bt428.2.1 > bt424.2.1 then (tumblerlaw02_MicroSent.j0 k a0 a1 t410 true) else (tumblerlaw02_MicroSent.j0 k a0 a1 t410 (decide (bt432.2.1 ≥ (IntKind.u64.wrap (a1)))))) else (tumblerlaw02_MicroSent.j0 k a0 a1 t410 (decide (bt432.2.1 ≥ (IntKind.u64.wrap (a1))))))))))))) else ((micro_Scale.f k 7 1000000).bind fun bt412 => (if t410 = 0 then (if bt412.1 = 7 then (if bt412.2 = 0 then (if a0 > 1000000000000000 then (some true) else (if a0 < (-1000000000000000) then (some true) else (if a1 < 1000 then (some true) else (some (decide (a1 > 1000000)))))) else (some false)) else (some false)) else (some false)))) = some r := H
 have A3 := Aside0.mk A30; clear A30
 by_cases c4 : t411 = 0
 · rw [if_pos c4] at H
   have c4b0 : (t411 == 0) = true := beq_iff_eq.mpr c4; have c4b1 : (t411 != 0) = false := bne_eq_false_iff_eq.mpr c4; clear c4
   replace H := Option.bind_eq_some_iff.mp H
   obtain ⟨⟨t414, t415, t416, t417⟩, A50, H⟩ := H
   replace H : ((tumblerref02_Of.f t410).bind fun bt419 => ((tumblerref02_Times.f k t414 t415 t416 1000000).bind fun bt424 => ((tumblerref02_Times.f k bt419.1 bt419.2.1 bt419.2.2.1 (IntKind.u64.wrap (a1))).bind fun bt428 => ((tumblerref02_Of.f (wrap64 (IntKind.u64.wrap (bt424.2.1 - bt428.2.1)))).bind fun bt432 => (if ((decide (t410 < 0)) != (decide (a0 < 0))) = true then (if t410 = 0 then (if bt428.1 > bt424.1 then (tumblerlaw02_MicroSent.j0 k a0 a1 t410 true) else (if bt428.1 = bt424.1 then (if bt428.2.1 > bt424.2.1 then (tumblerlaw02_MicroSent.j0 k a0 a1 t410 true) else (tumblerlaw02_MicroSent.j0 k a0 a1 t410 (decide (bt432.2.1 ≥ (IntKind.u64.wrap (a1)))))) else (tumblerlaw02_MicroSent.j0 k a0 a1 t410 (decide (bt432.2.1 ≥ (IntKind.u64.wrap (a1))))))) else (tumblerlaw02_MicroSent.j0 k a0 a1 t410 true)) else (if bt428.1 > bt424.1 then (tumblerlaw02_MicroSent.j0 k a0 a1 t410 true) else (if bt428.1 = bt424.1 then (if bt428.2.1 > bt424.2.1 then (tumblerlaw02_MicroSent.j0 k a0 a1 t410 true) else (tumblerlaw02_MicroSent.j0 k a0 a1 t410 (decide (bt432.2.1 ≥ (IntKind.u64.wrap (a1)))))) else (tumblerlaw02_MicroSent.j0 k a0 a1 t410 (decide (bt432.2.1 ≥ (IntKind.u64.wrap (a1)))))))))))) = some r := H
   have A5 := Aside0.mk A50; clear A50
   replace H := Option.bind_eq_some_iff.mp H
   obtain ⟨⟨t419, t420, t421, t422⟩, A60, H⟩ := H
   replace H : ((tumblerref02_Times.f k t414 t415 t416 1000000).bind fun bt424 => ((tumblerref02_Times.f k t419 t420 t421 (IntKind.u64.wrap (a1))).bind fun bt428 => ((tumblerref02_Of.f (wrap64 (IntKind.u64.wrap (bt424.2.1 - bt428.2.1)))).bind fun bt432 => (if ((decide (t410 < 0)) != (decide (a0 < 0))) = true then (if t410 = 0 then (if bt428.1 > bt424.1 then (tumblerlaw02_MicroSent.j0 k a0 a1 t410 true) else (if bt428.1 = bt424.1 then (if bt428.2.1 > bt424.2.1 then (tumblerlaw02_MicroSent.j0 k a0 a1 t410 true) else (tumblerlaw02_MicroSent.j0 k a0 a1 t410 (decide (bt432.2.1 ≥ (IntKind.u64.wrap (a1)))))) else (tumblerlaw02_MicroSent.j0 k a0 a1 t410 (decide (bt432.2.1 ≥ (IntKind.u64.wrap (a1))))))) else (tumblerlaw02_MicroSent.j0 k a0 a1 t410 true)) else (if bt428.1 > bt424.1 then (tumblerlaw02_MicroSent.j0 k a0 a1 t410 true) else (if bt428.1 = bt424.1 then (if bt428.2.1 > bt424.2.1 then (tumblerlaw02_MicroSent.j0 k a0 a1 t410 true) else (tumblerlaw02_MicroSent.j0 k a0 a1 t410 (decide (bt432.2.1 ≥ (IntKind.u64.wrap (a1)))))) else (tumblerlaw02_MicroSent.j0 k a0 a1 t410 (decide (bt432.2.1 ≥ (IntKind.u64.wrap (a1))))))))))) = some r := H
   have A6 := Aside0.mk A60; clear A60
   replace H := Option.bind_eq_some_iff.mp H
   obtain ⟨⟨t424, t425, t426⟩, A70, H⟩ := H
   replace H : ((tumblerref02_Times.f k t419 t420 t421 (IntKind.u64.wrap (a1))).bind fun bt428 => ((tumblerref02_Of.f (wrap64 (IntKind.u64.wrap (t425 - bt428.2.1)))).bind fun bt432 => (if ((decide (t410 < 0)) != (decide (a0 < 0))) = true then (if t410 = 0 then (if bt428.1 > t424 then (tumblerlaw02_MicroSent.j0 k a0 a1 t410 true) else (if bt428.1 = t424 then (if bt428.2.1 > t425 then (tumblerlaw02_MicroSent.j0 k a0 a1 t410 true) else (tumblerlaw02_MicroSent.j0 k a0 a1 t410 (decide (bt432.2.1 ≥ (IntKind.u64.wrap (a1)))))) else (tumblerlaw02_MicroSent.j0 k a0 a1 t410 (decide (bt432.2.1 ≥ (IntKind.u64.wrap (a1))))))) else (tumblerlaw02_MicroSent.j0 k a0 a1 t410 true)) else (if bt428.1 > t424 then (tumblerlaw02_MicroSent.j0 k a0 a1 t410 true) else (if bt428.1 = t424 then (if bt428.2.1 > t425 then (tumblerlaw02_MicroSent.j0 k a0 a1 t410 true) else (tumblerlaw02_MicroSent.j0 k a0 a1 t410 (decide (bt432.2.1 ≥ (IntKind.u64.wrap (a1)))))) else (tumblerlaw02_MicroSent.j0 k a0 a1 t410 (decide (bt432.2.1 ≥ (IntKind.u64.wrap (a1)))))))))) = some r := H
   have A7 := Aside0.mk A70; clear A70
   replace H := Option.bind_eq_some_iff.mp H
   obtain ⟨⟨t428, t429, t430⟩, A80, H⟩ := H
   replace H : ((tumblerref02_Of.f (wrap64 (IntKind.u64.wrap (t425 - t429)))).bind fun bt432 => (if ((decide (t410 < 0)) != (decide (a0 < 0))) = true then (if t410 = 0 then (if t428 > t424 then (tumblerlaw02_MicroSent.j0 k a0 a1 t410 true) else (if t428 = t424 then (if t429 > t425 then (tumblerlaw02_MicroSent.j0 k a0 a1 t410 true) else (tumblerlaw02_MicroSent.j0 k a0 a1 t410 (decide (bt432.2.1 ≥ (IntKind.u64.wrap (a1)))))) else (tumblerlaw02_MicroSent.j0 k a0 a1 t410 (decide (bt432.2.1 ≥ (IntKind.u64.wrap (a1))))))) else (tumblerlaw02_MicroSent.j0 k a0 a1 t410 true)) else (if t428 > t424 then (tumblerlaw02_MicroSent.j0 k a0 a1 t410 true) else (if t428 = t424 then (if t429 > t425 then (tumblerlaw02_MicroSent.j0 k a0 a1 t410 true) else (tumblerlaw02_MicroSent.j0 k a0 a1 t410 (decide (bt432.2.1 ≥ (IntKind.u64.wrap (a1)))))) else (tumblerlaw02_MicroSent.j0 k a0 a1 t410 (decide (bt432.2.1 ≥ (IntKind.u64.wrap (a1))))))))) = some r := H
   have A8 := Aside0.mk A80; clear A80
   replace H := Option.bind_eq_some_iff.mp H
   obtain ⟨⟨t432, t433, t434, t435⟩, A90, H⟩ := H
   replace H : (if ((decide (t410 < 0)) != (decide (a0 < 0))) = true then (if t410 = 0 then (if t428 > t424 then (tumblerlaw02_MicroSent.j0 k a0 a1 t410 true) else (if t428 = t424 then (if t429 > t425 then (tumblerlaw02_MicroSent.j0 k a0 a1 t410 true) else (tumblerlaw02_MicroSent.j0 k a0 a1 t410 (decide (t433 ≥ (IntKind.u64.wrap (a1)))))) else (tumblerlaw02_MicroSent.j0 k a0 a1 t410 (decide (t433 ≥ (IntKind.u64.wrap (a1))))))) else (tumblerlaw02_MicroSent.j0 k a0 a1 t410 true)) else (if t428 > t424 then (tumblerlaw02_MicroSent.j0 k a0 a1 t410 true) else (if t428 = t424 then (if t429 > t425 then (tumblerlaw02_MicroSent.j0 k a0 a1 t410 true) else (tumblerlaw02_MicroSent.j0 k a0 a1 t410 (decide (t433 ≥ (IntKind.u64.wrap (a1)))))) else (tumblerlaw02_MicroSent.j0 k a0 a1 t410 (decide (t433 ≥ (IntKind.u64.wrap (a1)))))))) = some r := H
   have A9 := Aside0.mk A90; clear A90; have HC10 := Aside0.mk H; clear H
   go_enter Try.func12, Try.ntmps12
   go_upto_region 10 with (first | ((with_reducible refine gate_callee (f := 26) rfl ?_); refine goesL_ (some 22) rfl rfl Try.func26 (by kernel_rfl) rfl #[.int .i64 a0, .int .i64 a1] rfl (by (try simp only [List.map_toArray, List.map_cons, List.map_nil]); first | done | rfl | (simp only [List.length_drop, List.length_take]; rfl)) ?_; (with_reducible refine (micro_Scale.calls k a0 a1 t410 t411 _ A3.out).mono ?_); rintro e w11 ⟨rfl, hb⟩; refine ⟨_, rfl, ?_⟩; have n0_ := am (below_step bz hb); clear HB; have HB := n0_; clear n0_; (try clear hb); (try clear hb2); (try clear hk); (try clear hi)) | ((with_reducible refine gate_callee (f := 28) rfl ?_); refine goesL_ (some 59) rfl rfl Try.func28 (by kernel_rfl) rfl #[.int .i64 a0] rfl (by (try simp only [List.map_toArray, List.map_cons, List.map_nil]); first | done | rfl | (simp only [List.length_drop, List.length_take]; rfl)) ?_; (with_reducible refine (tumblerref02_Of.calls a0 t414 t415 t416 t417 _ A5.out).mono ?_); rintro e w12 ⟨rfl, hb⟩; refine ⟨_, rfl, ?_⟩; have n0_ := am (below_step bz hb); clear HB; have HB := n0_; clear n0_; (try clear hb); (try clear hb2); (try clear hk); (try clear hi)) | ((with_reducible refine gate_dst (N := 9) rfl ?_); refine box_event ?hg (N := 9) ?hd (cs := #[.int .u64 0, .int .u64 0, .bool false]) (t := 35) ?hr ?_; (case hd => rfl); (case hg => rfl); (case hr => first | (go_simp; done) | (go_simp; rfl)); intro gb418 hg w13 hbox hb; have n0_ := am (below_step bz hb); have n1_ := am (hbox); have n2_ := am ((by rw [hg]; exact (below_size bz) : w.heap.size ≤ gb418)); have n3_ := am ((by rw [hg]; exact (below_size bz) : w.heap.size ≤ gb418)); clear HB; have HB := n0_; have BK418 := n1_; have GW418 := n2_; have GE418 := n3_; clear n0_ n1_ n2_ n3_; clear hb hbox hg; have hcz14_0 : w13.cell? ⟨gb418, 0, none⟩ = some (.int .u64 0) := (blk_cell BK418.out 0).trans rfl; have hcz14_1 : w13.cell? ⟨gb418, 1, none⟩ = some (.int .u64 0) := (blk_cell BK418.out 1).trans rfl; have hcz14_2 : w13.cell? ⟨gb418, 2, none⟩ = some (.bool false) := (blk_cell BK418.out 2).trans rfl; have hfz14_0 := blk_frozen BK418.out 0; have hfz14_1 := blk_frozen BK418.out 1; have hfz14_2 := blk_frozen BK418.out 2) | ((with_reducible refine gate_callee (f := 28) rfl ?_); refine goesL_ (some 64) rfl rfl Try.func28 (by kernel_rfl) rfl #[.int .i64 t410] rfl (by (try simp only [List.map_toArray, List.map_cons, List.map_nil]); first | done | rfl | (simp only [List.length_drop, List.length_take]; rfl)) ?_; (with_reducible refine (tumblerref02_Of.calls t410 t419 t420 t421 t422 _ A6.out).mono ?_); rintro e w15 ⟨rfl, hb⟩; refine ⟨_, rfl, ?_⟩; have n0_ := am (blk_below (g := gb418) (o := .cells #[.int .u64 t414, .int .u64 t415, .bool t416] 35 (0, 0)) (by (with_reducible repeat (first | apply bA | apply bB | apply bC)); refine blk_put (cs := #[.int .u64 t414, .int .u64 t415, .bool false]) ?_ 2 _ rfl; (with_reducible repeat (first | apply bA | apply bB | apply bC)); refine blk_put (cs := #[.int .u64 t414, .int .u64 0, .bool false]) ?_ 1 _ rfl; (with_reducible repeat (first | apply bA | apply bB | apply bC)); refine blk_put (cs := #[.int .u64 0, .int .u64 0, .bool false]) ?_ 0 _ rfl; (with_reducible repeat (first | apply bA | apply bB | apply bC)); exact BK418.out) hb); have n1_ := am (below_step bz hb); clear BK418; clear HB; have BK418 := n0_; have HB := n1_; clear n0_ n1_; (try clear hb); (try clear hb2); (try clear hk); (try clear hi)) | ((with_reducible refine gate_dst (N := 11) rfl ?_); refine box_event ?hg (N := 11) ?hd (cs := #[.int .u64 0, .int .u64 0, .bool false]) (t := 35) ?hr ?_; (case hd => rfl); (case hg => rfl); (case hr => first | (go_simp; done) | (go_simp; rfl)); intro gb423 hg w16 hbox hb; have n0_ := am (bb BK418 hb); have n1_ := am (below_step bz hb); have n2_ := am (hbox); have n3_ := am ((by rw [hg]; exact (below_size bz) : w.heap.size ≤ gb423)); have n4_ := am ((by rw [hg]; exact (below_size bz) : w.heap.size ≤ gb423)); have n5_ := am ((by rw [hg]; exact Nat.ne_of_lt (blk_lt (g := gb418) (o := .cells #[.int .u64 t414, .int .u64 t415, .bool t416] 35 (0, 0)) (bq BK418)) : gb418 ≠ gb423)); have n6_ := am ((by rw [hg]; exact Nat.ne_of_gt (blk_lt (g := gb418) (o := .cells #[.int .u64 t414, .int .u64 t415, .bool t416] 35 (0, 0)) (bq BK418)) : gb423 ≠ gb418)); clear BK418; clear HB; have BK418 := n0_; have HB := n1_; have BK423 := n2_; have GW423 := n3_; have GE423 := n4_; have NB418_423 := n5_; have NB423_418 := n6_; clear n0_ n1_ n2_ n3_ n4_ n5_ n6_; clear hb hbox hg; have hnb17 := NB423_418.out; have hnc17 := NB418_423.out; have hcz18_0 : w16.cell? ⟨gb423, 0, none⟩ = some (.int .u64 0) := (blk_cell BK423.out 0).trans rfl; have hcz18_1 : w16.cell? ⟨gb423, 1, none⟩ = some (.int .u64 0) := (blk_cell BK423.out 1).trans rfl; have hcz18_2 : w16.cell? ⟨gb423, 2, none⟩ = some (.bool false) := (blk_cell BK423.out 2).trans rfl; have hfz18_0 := blk_frozen BK423.out 0; have hfz18_1 := blk_frozen BK423.out 1; have hfz18_2 := blk_frozen BK423.out 2; have hcz19_0 : w16.cell? ⟨gb418, 0, none⟩ = some (.int .u64 t414) := (blk_cell BK418.out 0).trans rfl; have hcz19_1 : w16.cell? ⟨gb418, 1, none⟩ = some (.int .u64 t415) := (blk_cell BK418.out 1).trans rfl; have hcz19_2 : w16.cell? ⟨gb418, 2, none⟩ = some (.bool t416) := (blk_cell BK418.out 2).trans rfl; have hfz19_0 := blk_frozen BK418.out 0; have hfz19_1 := blk_frozen BK418.out 1; have hfz19_2 := blk_frozen BK418.out 2) | ((with_reducible refine gate_callee (f := 18) rfl ?_); refine goesL_ (some 68) rfl rfl Try.func18 (by kernel_rfl) rfl #[.agg #[.int .u64 t414, .int .u64 t415, .bool t416], .int .u64 1000000] rfl (by (try simp only [List.map_toArray, List.map_cons, List.map_nil]); first | done | rfl | (simp only [List.length_drop, List.length_take]; rfl)) ?_; (with_reducible refine (tumblerref02_Times.calls k t414 t415 t416 1000000 t424 t425 t426 _ A7.out).mono ?_); rintro e w20 ⟨rfl, hb⟩; refine ⟨_, rfl, ?_⟩; have n0_ := am (blk_below (g := gb418) (o := .cells #[.int .u64 t414, .int .u64 t415, .bool t416] 35 (0, 0)) (by (with_reducible repeat (first | apply bA | apply bB | apply bC)); refine blk_far ?_ NB418_423.out _; (with_reducible repeat (first | apply bA | apply bB | apply bC)); refine blk_far ?_ NB418_423.out _; (with_reducible repeat (first | apply bA | apply bB | apply bC)); refine blk_far ?_ NB418_423.out _; (with_reducible repeat (first | apply bA | apply bB | apply bC)); exact BK418.out) hb); have n1_ := am (blk_below (g := gb423) (o := .cells #[.int .u64 t419, .int .u64 t420, .bool t421] 35 (0, 0)) (by (with_reducible repeat (first | apply bA | apply bB | apply bC)); refine blk_put (cs := #[.int .u64 t419, .int .u64 t420, .bool false]) ?_ 2 _ rfl; (with_reducible repeat (first | apply bA | apply bB | apply bC)); refine blk_put (cs := #[.int .u64 t419, .int .u64 0, .bool false]) ?_ 1 _ rfl; (with_reducible repeat (first | apply bA | apply bB | apply bC)); refine blk_put (cs := #[.int .u64 0, .int .u64 0, .bool false]) ?_ 0 _ rfl; (with_reducible repeat (first | apply bA | apply bB | apply bC)); exact BK423.out) hb); have n2_ := am (below_step bz hb); clear BK418; clear BK423; clear HB; have BK418 := n0_; have BK423 := n1_; have HB := n2_; clear n0_ n1_ n2_; (try clear hb); (try clear hb2); (try clear hk); (try clear hi)) | ((with_reducible refine gate_dst (N := 13) rfl ?_); refine box_event ?hg (N := 13) ?hd (cs := #[.int .u64 0, .int .u64 0, .bool false]) (t := 35) ?hr ?_; (case hd => rfl); (case hg => rfl); (case hr => first | (go_simp; done) | (go_simp; rfl)); intro gb427 hg w21 hbox hb; have n0_ := am (bb BK418 hb); have n1_ := am (bb BK423 hb); have n2_ := am (below_step bz hb); have n3_ := am (hbox); have n4_ := am ((by rw [hg]; exact (below_size bz) : w.heap.size ≤ gb427)); have n5_ := am ((by rw [hg]; exact (below_size bz) : w.heap.size ≤ gb427)); have n6_ := am ((by rw [hg]; exact Nat.ne_of_lt (blk_lt (g := gb418) (o := .cells #[.int .u64 t414, .int .u64 t415, .bool t416] 35 (0, 0)) (bq BK418)) : gb418 ≠ gb427)); have n7_ := am ((by rw [hg]; exact Nat.ne_of_gt (blk_lt (g := gb418) (o := .cells #[.int .u64 t414, .int .u64 t415, .bool t416] 35 (0, 0)) (bq BK418)) : gb427 ≠ gb418)); have n8_ := am ((by rw [hg]; exact Nat.ne_of_lt (blk_lt (g := gb423) (o := .cells #[.int .u64 t419, .int .u64 t420, .bool t421] 35 (0, 0)) (bq BK423)) : gb423 ≠ gb427)); have n9_ := am ((by rw [hg]; exact Nat.ne_of_gt (blk_lt (g := gb423) (o := .cells #[.int .u64 t419, .int .u64 t420, .bool t421] 35 (0, 0)) (bq BK423)) : gb427 ≠ gb423)); clear BK418; clear BK423; clear HB; have BK418 := n0_; have BK423 := n1_; have HB := n2_; have BK427 := n3_; have GW427 := n4_; have GE427 := n5_; have NB418_427 := n6_; have NB427_418 := n7_; have NB423_427 := n8_; have NB427_423 := n9_; clear n0_ n1_ n2_ n3_ n4_ n5_ n6_ n7_ n8_ n9_; clear hb hbox hg; have hnb22 := NB427_418.out; have hnc22 := NB418_427.out; have hnb23 := NB427_423.out; have hnc23 := NB423_427.out; have hcz24_0 : w21.cell? ⟨gb427, 0, none⟩ = some (.int .u64 0) := (blk_cell BK427.out 0).trans rfl; have hcz24_1 : w21.cell? ⟨gb427, 1, none⟩ = some (.int .u64 0) := (blk_cell BK427.out 1).trans rfl; have hcz24_2 : w21.cell? ⟨gb427, 2, none⟩ = some (.bool false) := (blk_cell BK427.out 2).trans rfl; have hfz24_0 := blk_frozen BK427.out 0; have hfz24_1 := blk_frozen BK427.out 1; have hfz24_2 := blk_frozen BK427.out 2; have hcz25_0 : w21.cell? ⟨gb423, 0, none⟩ = some (.int .u64 t419) := (blk_cell BK423.out 0).trans rfl; have hcz25_1 : w21.cell? ⟨gb423, 1, none⟩ = some (.int .u64 t420) := (blk_cell BK423.out 1).trans rfl; have hcz25_2 : w21.cell? ⟨gb423, 2, none⟩ = some (.bool t421) := (blk_cell BK423.out 2).trans rfl; have hfz25_0 := blk_frozen BK423.out 0; have hfz25_1 := blk_frozen BK423.out 1; have hfz25_2 := blk_frozen BK423.out 2) | ((with_reducible refine gate_callee (f := 18) rfl ?_); refine goesL_ (some 72) rfl rfl Try.func18 (by kernel_rfl) rfl #[.agg #[.int .u64 t419, .int .u64 t420, .bool t421], .int .u64 (IntKind.u64.wrap (a1))] rfl (by (try simp only [List.map_toArray, List.map_cons, List.map_nil]); first | done | rfl | (simp only [List.length_drop, List.length_take]; rfl)) ?_; (with_reducible refine (tumblerref02_Times.calls k t419 t420 t421 (IntKind.u64.wrap (a1)) t428 t429 t430 _ A8.out).mono ?_); rintro e w26 ⟨rfl, hb⟩; refine ⟨_, rfl, ?_⟩; have n0_ := am (blk_below (g := gb418) (o := .cells #[.int .u64 t414, .int .u64 t415, .bool t416] 35 (0, 0)) (by (with_reducible repeat (first | apply bA | apply bB | apply bC)); refine blk_far ?_ NB418_427.out _; (with_reducible repeat (first | apply bA | apply bB | apply bC)); refine blk_far ?_ NB418_427.out _; (with_reducible repeat (first | apply bA | apply bB | apply bC)); refine blk_far ?_ NB418_427.out _; (with_reducible repeat (first | apply bA | apply bB | apply bC)); exact BK418.out) hb); have n1_ := am (blk_below (g := gb423) (o := .cells #[.int .u64 t419, .int .u64 t420, .bool t421] 35 (0, 0)) (by (with_reducible repeat (first | apply bA | apply bB | apply bC)); refine blk_far ?_ NB423_427.out _; (with_reducible repeat (first | apply bA | apply bB | apply bC)); refine blk_far ?_ NB423_427.out _; (with_reducible repeat (first | apply bA | apply bB | apply bC)); refine blk_far ?_ NB423_427.out _; (with_reducible repeat (first | apply bA | apply bB | apply bC)); exact BK423.out) hb); have n2_ := am (blk_below (g := gb427) (o := .cells #[.int .u64 t424, .int .u64 t425, .bool t426] 35 (0, 0)) (by (with_reducible repeat (first | apply bA | apply bB | apply bC)); refine blk_put (cs := #[.int .u64 t424, .int .u64 t425, .bool false]) ?_ 2 _ rfl; (with_reducible repeat (first | apply bA | apply bB | apply bC)); refine blk_put (cs := #[.int .u64 t424, .int .u64 0, .bool false]) ?_ 1 _ rfl; (with_reducible repeat (first | apply bA | apply bB | apply bC)); refine blk_put (cs := #[.int .u64 0, .int .u64 0, .bool false]) ?_ 0 _ rfl; (with_reducible repeat (first | apply bA | apply bB | apply bC)); exact BK427.out) hb); have n3_ := am (below_step bz hb); clear BK418; clear BK423; clear BK427; clear HB; have BK418 := n0_; have BK423 := n1_; have BK427 := n2_; have HB := n3_; clear n0_ n1_ n2_ n3_; (try clear hb); (try clear hb2); (try clear hk); (try clear hi)) | ((with_reducible refine gate_dst (N := 14) rfl ?_); refine box_event ?hg (N := 14) ?hd (cs := #[.int .u64 0, .int .u64 0, .bool false]) (t := 35) ?hr ?_; (case hd => rfl); (case hg => rfl); (case hr => first | (go_simp; done) | (go_simp; rfl)); intro gb431 hg w27 hbox hb; have n0_ := am (bb BK418 hb); have n1_ := am (bb BK423 hb); have n2_ := am (bb BK427 hb); have n3_ := am (below_step bz hb); have n4_ := am (hbox); have n5_ := am ((by rw [hg]; exact (below_size bz) : w.heap.size ≤ gb431)); have n6_ := am ((by rw [hg]; exact (below_size bz) : w.heap.size ≤ gb431)); have n7_ := am ((by rw [hg]; exact Nat.ne_of_lt (blk_lt (g := gb418) (o := .cells #[.int .u64 t414, .int .u64 t415, .bool t416] 35 (0, 0)) (bq BK418)) : gb418 ≠ gb431)); have n8_ := am ((by rw [hg]; exact Nat.ne_of_gt (blk_lt (g := gb418) (o := .cells #[.int .u64 t414, .int .u64 t415, .bool t416] 35 (0, 0)) (bq BK418)) : gb431 ≠ gb418)); have n9_ := am ((by rw [hg]; exact Nat.ne_of_lt (blk_lt (g := gb423) (o := .cells #[.int .u64 t419, .int .u64 t420, .bool t421] 35 (0, 0)) (bq BK423)) : gb423 ≠ gb431)); have n10_ := am ((by rw [hg]; exact Nat.ne_of_gt (blk_lt (g := gb423) (o := .cells #[.int .u64 t419, .int .u64 t420, .bool t421] 35 (0, 0)) (bq BK423)) : gb431 ≠ gb423)); have n11_ := am ((by rw [hg]; exact Nat.ne_of_lt (blk_lt (g := gb427) (o := .cells #[.int .u64 t424, .int .u64 t425, .bool t426] 35 (0, 0)) (bq BK427)) : gb427 ≠ gb431)); have n12_ := am ((by rw [hg]; exact Nat.ne_of_gt (blk_lt (g := gb427) (o := .cells #[.int .u64 t424, .int .u64 t425, .bool t426] 35 (0, 0)) (bq BK427)) : gb431 ≠ gb427)); clear BK418; clear BK423; clear BK427; clear HB; have BK418 := n0_; have BK423 := n1_; have BK427 := n2_; have HB := n3_; have BK431 := n4_; have GW431 := n5_; have GE431 := n6_; have NB418_431 := n7_; have NB431_418 := n8_; have NB423_431 := n9_; have NB431_423 := n10_; have NB427_431 := n11_; have NB431_427 := n12_; clear n0_ n1_ n2_ n3_ n4_ n5_ n6_ n7_ n8_ n9_ n10_ n11_ n12_; clear hb hbox hg; have hnb28 := NB431_418.out; have hnc28 := NB418_431.out; have hnb29 := NB431_423.out; have hnc29 := NB423_431.out; have hnb30 := NB431_427.out; have hnc30 := NB427_431.out; have hcz31_0 : w27.cell? ⟨gb431, 0, none⟩ = some (.int .u64 0) := (blk_cell BK431.out 0).trans rfl; have hcz31_1 : w27.cell? ⟨gb431, 1, none⟩ = some (.int .u64 0) := (blk_cell BK431.out 1).trans rfl; have hcz31_2 : w27.cell? ⟨gb431, 2, none⟩ = some (.bool false) := (blk_cell BK431.out 2).trans rfl; have hfz31_0 := blk_frozen BK431.out 0; have hfz31_1 := blk_frozen BK431.out 1; have hfz31_2 := blk_frozen BK431.out 2; have hcz32_0 : w27.cell? ⟨gb427, 0, none⟩ = some (.int .u64 t424) := (blk_cell BK427.out 0).trans rfl; have hcz32_1 : w27.cell? ⟨gb427, 1, none⟩ = some (.int .u64 t425) := (blk_cell BK427.out 1).trans rfl; have hcz32_2 : w27.cell? ⟨gb427, 2, none⟩ = some (.bool t426) := (blk_cell BK427.out 2).trans rfl; have hfz32_0 := blk_frozen BK427.out 0; have hfz32_1 := blk_frozen BK427.out 1; have hfz32_2 := blk_frozen BK427.out 2) | ((with_reducible refine gate_callee (f := 28) rfl ?_); refine goesL_ (some 80) rfl rfl Try.func28 (by kernel_rfl) rfl #[.int .i64 (wrap64 (IntKind.u64.wrap (t425 - t429)))] rfl (by (try simp only [List.map_toArray, List.map_cons, List.map_nil]); first | done | rfl | (simp only [List.length_drop, List.length_take]; rfl)) ?_; (with_reducible refine (tumblerref02_Of.calls (wrap64 (IntKind.u64.wrap (t425 - t429))) t432 t433 t434 t435 _ A9.out).mono ?_); rintro e w33 ⟨rfl, hb⟩; refine ⟨_, rfl, ?_⟩; have n0_ := am (blk_below (g := gb418) (o := .cells #[.int .u64 t414, .int .u64 t415, .bool t416] 35 (0, 0)) (by (with_reducible repeat (first | apply bA | apply bB | apply bC)); refine blk_far ?_ NB418_431.out _; (with_reducible repeat (first | apply bA | apply bB | apply bC)); refine blk_far ?_ NB418_431.out _; (with_reducible repeat (first | apply bA | apply bB | apply bC)); refine blk_far ?_ NB418_431.out _; (with_reducible repeat (first | apply bA | apply bB | apply bC)); exact BK418.out) hb); have n1_ := am (blk_below (g := gb423) (o := .cells #[.int .u64 t419, .int .u64 t420, .bool t421] 35 (0, 0)) (by (with_reducible repeat (first | apply bA | apply bB | apply bC)); refine blk_far ?_ NB423_431.out _; (with_reducible repeat (first | apply bA | apply bB | apply bC)); refine blk_far ?_ NB423_431.out _; (with_reducible repeat (first | apply bA | apply bB | apply bC)); refine blk_far ?_ NB423_431.out _; (with_reducible repeat (first | apply bA | apply bB | apply bC)); exact BK423.out) hb); have n2_ := am (blk_below (g := gb427) (o := .cells #[.int .u64 t424, .int .u64 t425, .bool t426] 35 (0, 0)) (by (with_reducible repeat (first | apply bA | apply bB | apply bC)); refine blk_far ?_ NB427_431.out _; (with_reducible repeat (first | apply bA | apply bB | apply bC)); refine blk_far ?_ NB427_431.out _; (with_reducible repeat (first | apply bA | apply bB | apply bC)); refine blk_far ?_ NB427_431.out _; (with_reducible repeat (first | apply bA | apply bB | apply bC)); exact BK427.out) hb); have n3_ := am (blk_below (g := gb431) (o := .cells #[.int .u64 t428, .int .u64 t429, .bool t430] 35 (0, 0)) (by (with_reducible repeat (first | apply bA | apply bB | apply bC)); refine blk_put (cs := #[.int .u64 t428, .int .u64 t429, .bool false]) ?_ 2 _ rfl; (with_reducible repeat (first | apply bA | apply bB | apply bC)); refine blk_put (cs := #[.int .u64 t428, .int .u64 0, .bool false]) ?_ 1 _ rfl; (with_reducible repeat (first | apply bA | apply bB | apply bC)); refine blk_put (cs := #[.int .u64 0, .int .u64 0, .bool false]) ?_ 0 _ rfl; (with_reducible repeat (first | apply bA | apply bB | apply bC)); exact BK431.out) hb); have n4_ := am (below_step bz hb); clear BK418; clear BK423; clear BK427; clear BK431; clear HB; have BK418 := n0_; have BK423 := n1_; have BK427 := n2_; have BK431 := n3_; have HB := n4_; clear n0_ n1_ n2_ n3_ n4_; (try clear hb); (try clear hb2); (try clear hk); (try clear hi)) | ((with_reducible refine gate_dst (N := 15) rfl ?_); refine box_event ?hg (N := 15) ?hd (cs := #[.int .u64 0, .int .u64 0, .bool false]) (t := 35) ?hr ?_; (case hd => rfl); (case hg => rfl); (case hr => first | (go_simp; done) | (go_simp; rfl)); intro gb436 hg w34 hbox hb; have n0_ := am (bb BK418 hb); have n1_ := am (bb BK423 hb); have n2_ := am (bb BK427 hb); have n3_ := am (bb BK431 hb); have n4_ := am (below_step bz hb); have n5_ := am (hbox); have n6_ := am ((by rw [hg]; exact (below_size bz) : w.heap.size ≤ gb436)); have n7_ := am ((by rw [hg]; exact (below_size bz) : w.heap.size ≤ gb436)); have n8_ := am ((by rw [hg]; exact Nat.ne_of_lt (blk_lt (g := gb418) (o := .cells #[.int .u64 t414, .int .u64 t415, .bool t416] 35 (0, 0)) (bq BK418)) : gb418 ≠ gb436)); have n9_ := am ((by rw [hg]; exact Nat.ne_of_gt (blk_lt (g := gb418) (o := .cells #[.int .u64 t414, .int .u64 t415, .bool t416] 35 (0, 0)) (bq BK418)) : gb436 ≠ gb418)); have n10_ := am ((by rw [hg]; exact Nat.ne_of_lt (blk_lt (g := gb423) (o := .cells #[.int .u64 t419, .int .u64 t420, .bool t421] 35 (0, 0)) (bq BK423)) : gb423 ≠ gb436)); have n11_ := am ((by rw [hg]; exact Nat.ne_of_gt (blk_lt (g := gb423) (o := .cells #[.int .u64 t419, .int .u64 t420, .bool t421] 35 (0, 0)) (bq BK423)) : gb436 ≠ gb423)); have n12_ := am ((by rw [hg]; exact Nat.ne_of_lt (blk_lt (g := gb427) (o := .cells #[.int .u64 t424, .int .u64 t425, .bool t426] 35 (0, 0)) (bq BK427)) : gb427 ≠ gb436)); have n13_ := am ((by rw [hg]; exact Nat.ne_of_gt (blk_lt (g := gb427) (o := .cells #[.int .u64 t424, .int .u64 t425, .bool t426] 35 (0, 0)) (bq BK427)) : gb436 ≠ gb427)); have n14_ := am ((by rw [hg]; exact Nat.ne_of_lt (blk_lt (g := gb431) (o := .cells #[.int .u64 t428, .int .u64 t429, .bool t430] 35 (0, 0)) (bq BK431)) : gb431 ≠ gb436)); have n15_ := am ((by rw [hg]; exact Nat.ne_of_gt (blk_lt (g := gb431) (o := .cells #[.int .u64 t428, .int .u64 t429, .bool t430] 35 (0, 0)) (bq BK431)) : gb436 ≠ gb431)); clear BK418; clear BK423; clear BK427; clear BK431; clear HB; have BK418 := n0_; have BK423 := n1_; have BK427 := n2_; have BK431 := n3_; have HB := n4_; have BK436 := n5_; have GW436 := n6_; have GE436 := n7_; have NB418_436 := n8_; have NB436_418 := n9_; have NB423_436 := n10_; have NB436_423 := n11_; have NB427_436 := n12_; have NB436_427 := n13_; have NB431_436 := n14_; have NB436_431 := n15_; clear n0_ n1_ n2_ n3_ n4_ n5_ n6_ n7_ n8_ n9_ n10_ n11_ n12_ n13_ n14_ n15_; clear hb hbox hg; have hnb35 := NB436_418.out; have hnc35 := NB418_436.out; have hnb36 := NB436_423.out; have hnc36 := NB423_436.out; have hnb37 := NB436_427.out; have hnc37 := NB427_436.out; have hnb38 := NB436_431.out; have hnc38 := NB431_436.out; have hcz39_0 : w34.cell? ⟨gb436, 0, none⟩ = some (.int .u64 0) := (blk_cell BK436.out 0).trans rfl; have hcz39_1 : w34.cell? ⟨gb436, 1, none⟩ = some (.int .u64 0) := (blk_cell BK436.out 1).trans rfl; have hcz39_2 : w34.cell? ⟨gb436, 2, none⟩ = some (.bool false) := (blk_cell BK436.out 2).trans rfl; have hfz39_0 := blk_frozen BK436.out 0; have hfz39_1 := blk_frozen BK436.out 1; have hfz39_2 := blk_frozen BK436.out 2))
   (try simp only [Act.put, List.setIfInBounds_toArray, List.set_cons_zero, List.set_cons_succ])
   go_cut [119] (fun v119 wc => ∃ (kq : Nat) (x119_9 : Bool), v119 = .bool x119_9 ∧ Aside0 (tumblerlaw02_MicroSent.j0 kq a0 a1 t410 x119_9 = some r) ∧ Aside0 (kq ≤ k) ∧ Aside0 (wc.heap[gb418]? = some (.cells #[.int .u64 t414, .int .u64 t415, .bool t416] 35 (0, 0))) ∧ Aside0 (wc.heap[gb423]? = some (.cells #[.int .u64 t419, .int .u64 t420, .bool t421] 35 (0, 0))) ∧ Aside0 (wc.heap[gb427]? = some (.cells #[.int .u64 t424, .int .u64 t425, .bool t426] 35 (0, 0))) ∧ Aside0 (wc.heap[gb431]? = some (.cells #[.int .u64 t428, .int .u64 t429, .bool t430] 35 (0, 0))) ∧ Aside0 (wc.heap[gb436]? = some (.cells #[.int .u64 t432, .int .u64 t433, .bool t434] 35 (0, 0))) ∧ Aside0 (Below w.heap.size w wc))
   case first =>
    have H := HC10.out; clear HC10
    by_cases c40 : ((decide (t410 < 0)) != (decide (a0 < 0))) = true
    · rw [if_pos c40] at H
      have c40b0 : ((decide (t410 < 0)) != (decide (a0 < 0))) = true := c40; (try (have c40b1 : decide ((decide (t410 < 0)) = (decide (a0 < 0))) = false := by simpa using c40)); (try (have c40b2 : ((decide (t410 < 0)) == (decide (a0 < 0))) = false := by simpa using c40)); (try (have c40b3 : ¬ ((decide (t410 < 0)) = (decide (a0 < 0))) := by simpa using c40)); clear c40
      (first | rw [c40b0] | (simp only [i64_w, i32_w]; rw [c40b0]) | skip)
      by_cases c41 : t410 = 0
      · rw [if_pos c41] at H
        have c41b0 : (t410 == 0) = true := beq_iff_eq.mpr c41; have c41b1 : (t410 != 0) = false := bne_eq_false_iff_eq.mpr c41; clear c41
        by_cases c42 : t428 > t424
        · rw [if_pos c42] at H
          have c42b0 : decide (t424 < t428) = true := decide_eq_true c42; clear c42; have H' := Aside0.mk H; clear H; have hnb43 := NB431_418.out; have hnc43 := NB418_431.out; have hnb44 := NB431_423.out; have hnc44 := NB423_431.out; have hnb45 := NB431_427.out; have hnc45 := NB427_431.out; have hnb46 := NB431_436.out; have hnc46 := NB436_431.out; have hcz47_0 : w34.cell? ⟨gb431, 0, none⟩ = some (.int .u64 t428) := (blk_cell BK431.out 0).trans rfl; have hcz47_1 : w34.cell? ⟨gb431, 1, none⟩ = some (.int .u64 t429) := (blk_cell BK431.out 1).trans rfl; have hcz47_2 : w34.cell? ⟨gb431, 2, none⟩ = some (.bool t430) := (blk_cell BK431.out 2).trans rfl; have hfz47_0 := blk_frozen BK431.out 0; have hfz47_1 := blk_frozen BK431.out 1; have hfz47_2 := blk_frozen BK431.out 2; have hnb48 := NB427_418.out; have hnc48 := NB418_427.out; have hnb49 := NB427_423.out; have hnc49 := NB423_427.out; have hnb50 := NB427_436.out; have hnc50 := NB436_427.out; have hcz51_0 : w34.cell? ⟨gb427, 0, none⟩ = some (.int .u64 t424) := (blk_cell BK427.out 0).trans rfl; have hcz51_1 : w34.cell? ⟨gb427, 1, none⟩ = some (.int .u64 t425) := (blk_cell BK427.out 1).trans rfl; have hcz51_2 : w34.cell? ⟨gb427, 2, none⟩ = some (.bool t426) := (blk_cell BK427.out 2).trans rfl; have hfz51_0 := blk_frozen BK427.out 0; have hfz51_1 := blk_frozen BK427.out 1; have hfz51_2 := blk_frozen BK427.out 2
          go_wp2
          go_meet
          case rel => exact ⟨_, (true), (by first | rfl | (simp; done) | (simp [*]; done)), H', ⟨by first | omega | exact Nat.le_refl _⟩, ⟨by (with_reducible repeat (first | apply bA | apply bB | apply bC)); refine blk_far ?_ NB418_436.out _; (with_reducible repeat (first | apply bA | apply bB | apply bC)); refine blk_far ?_ NB418_436.out _; (with_reducible repeat (first | apply bA | apply bB | apply bC)); refine blk_far ?_ NB418_436.out _; (with_reducible repeat (first | apply bA | apply bB | apply bC)); exact BK418.out⟩, ⟨by (with_reducible repeat (first | apply bA | apply bB | apply bC)); refine blk_far ?_ NB423_436.out _; (with_reducible repeat (first | apply bA | apply bB | apply bC)); refine blk_far ?_ NB423_436.out _; (with_reducible repeat (first | apply bA | apply bB | apply bC)); refine blk_far ?_ NB423_436.out _; (with_reducible repeat (first | apply bA | apply bB | apply bC)); exact BK423.out⟩, ⟨by (with_reducible repeat (first | apply bA | apply bB | apply bC)); refine blk_far ?_ NB427_436.out _; (with_reducible repeat (first | apply bA | apply bB | apply bC)); refine blk_far ?_ NB427_436.out _; (with_reducible repeat (first | apply bA | apply bB | apply bC)); refine blk_far ?_ NB427_436.out _; (with_reducible repeat (first | apply bA | apply bB | apply bC)); exact BK427.out⟩, ⟨by (with_reducible repeat (first | apply bA | apply bB | apply bC)); refine blk_far ?_ NB431_436.out _; (with_reducible repeat (first | apply bA | apply bB | apply bC)); refine blk_far ?_ NB431_436.out _; (with_reducible repeat (first | apply bA | apply bB | apply bC)); refine blk_far ?_ NB431_436.out _; (with_reducible repeat (first | apply bA | apply bB | apply bC)); exact BK431.out⟩, ⟨by (with_reducible repeat (first | apply bA | apply bB | apply bC)); refine blk_put (cs := #[.int .u64 t432, .int .u64 t433, .bool false]) ?_ 2 _ rfl; (with_reducible repeat (first | apply bA | apply bB | apply bC)); refine blk_put (cs := #[.int .u64 t432, .int .u64 0, .bool false]) ?_ 1 _ rfl; (with_reducible repeat (first | apply bA | apply bB | apply bC)); refine blk_put (cs := #[.int .u64 0, .int .u64 0, .bool false]) ?_ 0 _ rfl; (with_reducible repeat (first | apply bA | apply bB | apply bC)); exact BK436.out⟩, ⟨by repeat (first | (with_reducible first | exact HB.out | apply dA | apply dB | apply dC | refine dE ?_ ‹_›) | exact HB.out)⟩⟩
        · rw [if_neg c42] at H
          have c42b0 : decide (t424 < t428) = false := decide_eq_false c42; clear c42
          by_cases c52 : t428 = t424
          · rw [if_pos c52] at H
            have c52b0 : (t428 == t424) = true := beq_iff_eq.mpr c52; have c52b1 : (t428 != t424) = false := bne_eq_false_iff_eq.mpr c52; clear c52
            by_cases c53 : t429 > t425
            · rw [if_pos c53] at H
              have c53b0 : decide (t425 < t429) = true := decide_eq_true c53; clear c53; have H' := Aside0.mk H; clear H; have hnb54 := NB431_418.out; have hnc54 := NB418_431.out; have hnb55 := NB431_423.out; have hnc55 := NB423_431.out; have hnb56 := NB431_427.out; have hnc56 := NB427_431.out; have hnb57 := NB431_436.out; have hnc57 := NB436_431.out; have hcz58_0 : w34.cell? ⟨gb431, 0, none⟩ = some (.int .u64 t428) := (blk_cell BK431.out 0).trans rfl; have hcz58_1 : w34.cell? ⟨gb431, 1, none⟩ = some (.int .u64 t429) := (blk_cell BK431.out 1).trans rfl; have hcz58_2 : w34.cell? ⟨gb431, 2, none⟩ = some (.bool t430) := (blk_cell BK431.out 2).trans rfl; have hfz58_0 := blk_frozen BK431.out 0; have hfz58_1 := blk_frozen BK431.out 1; have hfz58_2 := blk_frozen BK431.out 2; have hnb59 := NB427_418.out; have hnc59 := NB418_427.out; have hnb60 := NB427_423.out; have hnc60 := NB423_427.out; have hnb61 := NB427_436.out; have hnc61 := NB436_427.out; have hcz62_0 : w34.cell? ⟨gb427, 0, none⟩ = some (.int .u64 t424) := (blk_cell BK427.out 0).trans rfl; have hcz62_1 : w34.cell? ⟨gb427, 1, none⟩ = some (.int .u64 t425) := (blk_cell BK427.out 1).trans rfl; have hcz62_2 : w34.cell? ⟨gb427, 2, none⟩ = some (.bool t426) := (blk_cell BK427.out 2).trans rfl; have hfz62_0 := blk_frozen BK427.out 0; have hfz62_1 := blk_frozen BK427.out 1; have hfz62_2 := blk_frozen BK427.out 2
              go_wp2
              go_meet
              case rel => exact ⟨_, (true), (by first | rfl | (simp; done) | (simp [*]; done)), H', ⟨by first | omega | exact Nat.le_refl _⟩, ⟨by (with_reducible repeat (first | apply bA | apply bB | apply bC)); refine blk_far ?_ NB418_436.out _; (with_reducible repeat (first | apply bA | apply bB | apply bC)); refine blk_far ?_ NB418_436.out _; (with_reducible repeat (first | apply bA | apply bB | apply bC)); refine blk_far ?_ NB418_436.out _; (with_reducible repeat (first | apply bA | apply bB | apply bC)); exact BK418.out⟩, ⟨by (with_reducible repeat (first | apply bA | apply bB | apply bC)); refine blk_far ?_ NB423_436.out _; (with_reducible repeat (first | apply bA | apply bB | apply bC)); refine blk_far ?_ NB423_436.out _; (with_reducible repeat (first | apply bA | apply bB | apply bC)); refine blk_far ?_ NB423_436.out _; (with_reducible repeat (first | apply bA | apply bB | apply bC)); exact BK423.out⟩, ⟨by (with_reducible repeat (first | apply bA | apply bB | apply bC)); refine blk_far ?_ NB427_436.out _; (with_reducible repeat (first | apply bA | apply bB | apply bC)); refine blk_far ?_ NB427_436.out _; (with_reducible repeat (first | apply bA | apply bB | apply bC)); refine blk_far ?_ NB427_436.out _; (with_reducible repeat (first | apply bA | apply bB | apply bC)); exact BK427.out⟩, ⟨by (with_reducible repeat (first | apply bA | apply bB | apply bC)); refine blk_far ?_ NB431_436.out _; (with_reducible repeat (first | apply bA | apply bB | apply bC)); refine blk_far ?_ NB431_436.out _; (with_reducible repeat (first | apply bA | apply bB | apply bC)); refine blk_far ?_ NB431_436.out _; (with_reducible repeat (first | apply bA | apply bB | apply bC)); exact BK431.out⟩, ⟨by (with_reducible repeat (first | apply bA | apply bB | apply bC)); refine blk_put (cs := #[.int .u64 t432, .int .u64 t433, .bool false]) ?_ 2 _ rfl; (with_reducible repeat (first | apply bA | apply bB | apply bC)); refine blk_put (cs := #[.int .u64 t432, .int .u64 0, .bool false]) ?_ 1 _ rfl; (with_reducible repeat (first | apply bA | apply bB | apply bC)); refine blk_put (cs := #[.int .u64 0, .int .u64 0, .bool false]) ?_ 0 _ rfl; (with_reducible repeat (first | apply bA | apply bB | apply bC)); exact BK436.out⟩, ⟨by repeat (first | (with_reducible first | exact HB.out | apply dA | apply dB | apply dC | refine dE ?_ ‹_›) | exact HB.out)⟩⟩
            · rw [if_neg c53] at H
              have c53b0 : decide (t425 < t429) = false := decide_eq_false c53; clear c53; have H' := Aside0.mk H; clear H; have hnb63 := NB431_418.out; have hnc63 := NB418_431.out; have hnb64 := NB431_423.out; have hnc64 := NB423_431.out; have hnb65 := NB431_427.out; have hnc65 := NB427_431.out; have hnb66 := NB431_436.out; have hnc66 := NB436_431.out; have hcz67_0 : w34.cell? ⟨gb431, 0, none⟩ = some (.int .u64 t428) := (blk_cell BK431.out 0).trans rfl; have hcz67_1 : w34.cell? ⟨gb431, 1, none⟩ = some (.int .u64 t429) := (blk_cell BK431.out 1).trans rfl; have hcz67_2 : w34.cell? ⟨gb431, 2, none⟩ = some (.bool t430) := (blk_cell BK431.out 2).trans rfl; have hfz67_0 := blk_frozen BK431.out 0; have hfz67_1 := blk_frozen BK431.out 1; have hfz67_2 := blk_frozen BK431.out 2; have hnb68 := NB427_418.out; have hnc68 := NB418_427.out; have hnb69 := NB427_423.out; have hnc69 := NB423_427.out; have hnb70 := NB427_436.out; have hnc70 := NB436_427.out; have hcz71_0 : w34.cell? ⟨gb427, 0, none⟩ = some (.int .u64 t424) := (blk_cell BK427.out 0).trans rfl; have hcz71_1 : w34.cell? ⟨gb427, 1, none⟩ = some (.int .u64 t425) := (blk_cell BK427.out 1).trans rfl; have hcz71_2 : w34.cell? ⟨gb427, 2, none⟩ = some (.bool t426) := (blk_cell BK427.out 2).trans rfl; have hfz71_0 := blk_frozen BK427.out 0; have hfz71_1 := blk_frozen BK427.out 1; have hfz71_2 := blk_frozen BK427.out 2; have hnb72 := NB436_418.out; have hnc72 := NB418_436.out; have hnb73 := NB436_423.out; have hnc73 := NB423_436.out; have hcz74_0 : w34.cell? ⟨gb436, 0, none⟩ = some (.int .u64 0) := (blk_cell BK436.out 0).trans rfl; have hcz74_1 : w34.cell? ⟨gb436, 1, none⟩ = some (.int .u64 0) := (blk_cell BK436.out 1).trans rfl; have hcz74_2 : w34.cell? ⟨gb436, 2, none⟩ = some (.bool false) := (blk_cell BK436.out 2).trans rfl; have hfz74_0 := blk_frozen BK436.out 0; have hfz74_1 := blk_frozen BK436.out 1; have hfz74_2 := blk_frozen BK436.out 2
              go_wp2
              go_meet
              case rel => exact ⟨_, (decide (t433 ≥ (IntKind.u64.wrap (a1)))), (by first | rfl | (simp; done) | (simp [*]; done)), H', ⟨by first | omega | exact Nat.le_refl _⟩, ⟨by (with_reducible repeat (first | apply bA | apply bB | apply bC)); refine blk_far ?_ NB418_436.out _; (with_reducible repeat (first | apply bA | apply bB | apply bC)); refine blk_far ?_ NB418_436.out _; (with_reducible repeat (first | apply bA | apply bB | apply bC)); refine blk_far ?_ NB418_436.out _; (with_reducible repeat (first | apply bA | apply bB | apply bC)); exact BK418.out⟩, ⟨by (with_reducible repeat (first | apply bA | apply bB | apply bC)); refine blk_far ?_ NB423_436.out _; (with_reducible repeat (first | apply bA | apply bB | apply bC)); refine blk_far ?_ NB423_436.out _; (with_reducible repeat (first | apply bA | apply bB | apply bC)); refine blk_far ?_ NB423_436.out _; (with_reducible repeat (first | apply bA | apply bB | apply bC)); exact BK423.out⟩, ⟨by (with_reducible repeat (first | apply bA | apply bB | apply bC)); refine blk_far ?_ NB427_436.out _; (with_reducible repeat (first | apply bA | apply bB | apply bC)); refine blk_far ?_ NB427_436.out _; (with_reducible repeat (first | apply bA | apply bB | apply bC)); refine blk_far ?_ NB427_436.out _; (with_reducible repeat (first | apply bA | apply bB | apply bC)); exact BK427.out⟩, ⟨by (with_reducible repeat (first | apply bA | apply bB | apply bC)); refine blk_far ?_ NB431_436.out _; (with_reducible repeat (first | apply bA | apply bB | apply bC)); refine blk_far ?_ NB431_436.out _; (with_reducible repeat (first | apply bA | apply bB | apply bC)); refine blk_far ?_ NB431_436.out _; (with_reducible repeat (first | apply bA | apply bB | apply bC)); exact BK431.out⟩, ⟨by (with_reducible repeat (first | apply bA | apply bB | apply bC)); refine blk_put (cs := #[.int .u64 t432, .int .u64 t433, .bool false]) ?_ 2 _ rfl; (with_reducible repeat (first | apply bA | apply bB | apply bC)); refine blk_put (cs := #[.int .u64 t432, .int .u64 0, .bool false]) ?_ 1 _ rfl; (with_reducible repeat (first | apply bA | apply bB | apply bC)); refine blk_put (cs := #[.int .u64 0, .int .u64 0, .bool false]) ?_ 0 _ rfl; (with_reducible repeat (first | apply bA | apply bB | apply bC)); exact BK436.out⟩, ⟨by repeat (first | (with_reducible first | exact HB.out | apply dA | apply dB | apply dC | refine dE ?_ ‹_›) | exact HB.out)⟩⟩
          · rw [if_neg c52] at H
            have c52b0 : (t428 == t424) = false := beq_eq_false_iff_ne.mpr c52; have c52b1 : (t428 != t424) = true := bne_iff_ne.mpr c52; have H' := Aside0.mk H; clear H; have hnb75 := NB431_418.out; have hnc75 := NB418_431.out; have hnb76 := NB431_423.out; have hnc76 := NB423_431.out; have hnb77 := NB431_427.out; have hnc77 := NB427_431.out; have hnb78 := NB431_436.out; have hnc78 := NB436_431.out; have hcz79_0 : w34.cell? ⟨gb431, 0, none⟩ = some (.int .u64 t428) := (blk_cell BK431.out 0).trans rfl; have hcz79_1 : w34.cell? ⟨gb431, 1, none⟩ = some (.int .u64 t429) := (blk_cell BK431.out 1).trans rfl; have hcz79_2 : w34.cell? ⟨gb431, 2, none⟩ = some (.bool t430) := (blk_cell BK431.out 2).trans rfl; have hfz79_0 := blk_frozen BK431.out 0; have hfz79_1 := blk_frozen BK431.out 1; have hfz79_2 := blk_frozen BK431.out 2; have hnb80 := NB427_418.out; have hnc80 := NB418_427.out; have hnb81 := NB427_423.out; have hnc81 := NB423_427.out; have hnb82 := NB427_436.out; have hnc82 := NB436_427.out; have hcz83_0 : w34.cell? ⟨gb427, 0, none⟩ = some (.int .u64 t424) := (blk_cell BK427.out 0).trans rfl; have hcz83_1 : w34.cell? ⟨gb427, 1, none⟩ = some (.int .u64 t425) := (blk_cell BK427.out 1).trans rfl; have hcz83_2 : w34.cell? ⟨gb427, 2, none⟩ = some (.bool t426) := (blk_cell BK427.out 2).trans rfl; have hfz83_0 := blk_frozen BK427.out 0; have hfz83_1 := blk_frozen BK427.out 1; have hfz83_2 := blk_frozen BK427.out 2; have hnb84 := NB436_418.out; have hnc84 := NB418_436.out; have hnb85 := NB436_423.out; have hnc85 := NB423_436.out; have hcz86_0 : w34.cell? ⟨gb436, 0, none⟩ = some (.int .u64 0) := (blk_cell BK436.out 0).trans rfl; have hcz86_1 : w34.cell? ⟨gb436, 1, none⟩ = some (.int .u64 0) := (blk_cell BK436.out 1).trans rfl; have hcz86_2 : w34.cell? ⟨gb436, 2, none⟩ = some (.bool false) := (blk_cell BK436.out 2).trans rfl; have hfz86_0 := blk_frozen BK436.out 0; have hfz86_1 := blk_frozen BK436.out 1; have hfz86_2 := blk_frozen BK436.out 2
            go_wp2
            go_meet
            case rel => exact ⟨_, (decide (t433 ≥ (IntKind.u64.wrap (a1)))), (by first | rfl | (simp; done) | (simp [*]; done)), H', ⟨by first | omega | exact Nat.le_refl _⟩, ⟨by (with_reducible repeat (first | apply bA | apply bB | apply bC)); refine blk_far ?_ NB418_436.out _; (with_reducible repeat (first | apply bA | apply bB | apply bC)); refine blk_far ?_ NB418_436.out _; (with_reducible repeat (first | apply bA | apply bB | apply bC)); refine blk_far ?_ NB418_436.out _; (with_reducible repeat (first | apply bA | apply bB | apply bC)); exact BK418.out⟩, ⟨by (with_reducible repeat (first | apply bA | apply bB | apply bC)); refine blk_far ?_ NB423_436.out _; (with_reducible repeat (first | apply bA | apply bB | apply bC)); refine blk_far ?_ NB423_436.out _; (with_reducible repeat (first | apply bA | apply bB | apply bC)); refine blk_far ?_ NB423_436.out _; (with_reducible repeat (first | apply bA | apply bB | apply bC)); exact BK423.out⟩, ⟨by (with_reducible repeat (first | apply bA | apply bB | apply bC)); refine blk_far ?_ NB427_436.out _; (with_reducible repeat (first | apply bA | apply bB | apply bC)); refine blk_far ?_ NB427_436.out _; (with_reducible repeat (first | apply bA | apply bB | apply bC)); refine blk_far ?_ NB427_436.out _; (with_reducible repeat (first | apply bA | apply bB | apply bC)); exact BK427.out⟩, ⟨by (with_reducible repeat (first | apply bA | apply bB | apply bC)); refine blk_far ?_ NB431_436.out _; (with_reducible repeat (first | apply bA | apply bB | apply bC)); refine blk_far ?_ NB431_436.out _; (with_reducible repeat (first | apply bA | apply bB | apply bC)); refine blk_far ?_ NB431_436.out _; (with_reducible repeat (first | apply bA | apply bB | apply bC)); exact BK431.out⟩, ⟨by (with_reducible repeat (first | apply bA | apply bB | apply bC)); refine blk_put (cs := #[.int .u64 t432, .int .u64 t433, .bool false]) ?_ 2 _ rfl; (with_reducible repeat (first | apply bA | apply bB | apply bC)); refine blk_put (cs := #[.int .u64 t432, .int .u64 0, .bool false]) ?_ 1 _ rfl; (with_reducible repeat (first | apply bA | apply bB | apply bC)); refine blk_put (cs := #[.int .u64 0, .int .u64 0, .bool false]) ?_ 0 _ rfl; (with_reducible repeat (first | apply bA | apply bB | apply bC)); exact BK436.out⟩, ⟨by repeat (first | (with_reducible first | exact HB.out | apply dA | apply dB | apply dC | refine dE ?_ ‹_›) | exact HB.out)⟩⟩
      · rw [if_neg c41] at H
        have c41b0 : (t410 == 0) = false := beq_eq_false_iff_ne.mpr c41; have c41b1 : (t410 != 0) = true := bne_iff_ne.mpr c41; have H' := Aside0.mk H; clear H
        go_wp2
        go_meet
        case rel => exact ⟨_, (true), (by first | rfl | (simp; done) | (simp [*]; done)), H', ⟨by first | omega | exact Nat.le_refl _⟩, ⟨by (with_reducible repeat (first | apply bA | apply bB | apply bC)); refine blk_far ?_ NB418_436.out _; (with_reducible repeat (first | apply bA | apply bB | apply bC)); refine blk_far ?_ NB418_436.out _; (with_reducible repeat (first | apply bA | apply bB | apply bC)); refine blk_far ?_ NB418_436.out _; (with_reducible repeat (first | apply bA | apply bB | apply bC)); exact BK418.out⟩, ⟨by (with_reducible repeat (first | apply bA | apply bB | apply bC)); refine blk_far ?_ NB423_436.out _; (with_reducible repeat (first | apply bA | apply bB | apply bC)); refine blk_far ?_ NB423_436.out _; (with_reducible repeat (first | apply bA | apply bB | apply bC)); refine blk_far ?_ NB423_436.out _; (with_reducible repeat (first | apply bA | apply bB | apply bC)); exact BK423.out⟩, ⟨by (with_reducible repeat (first | apply bA | apply bB | apply bC)); refine blk_far ?_ NB427_436.out _; (with_reducible repeat (first | apply bA | apply bB | apply bC)); refine blk_far ?_ NB427_436.out _; (with_reducible repeat (first | apply bA | apply bB | apply bC)); refine blk_far ?_ NB427_436.out _; (with_reducible repeat (first | apply bA | apply bB | apply bC)); exact BK427.out⟩, ⟨by (with_reducible repeat (first | apply bA | apply bB | apply bC)); refine blk_far ?_ NB431_436.out _; (with_reducible repeat (first | apply bA | apply bB | apply bC)); refine blk_far ?_ NB431_436.out _; (with_reducible repeat (first | apply bA | apply bB | apply bC)); refine blk_far ?_ NB431_436.out _; (with_reducible repeat (first | apply bA | apply bB | apply bC)); exact BK431.out⟩, ⟨by (with_reducible repeat (first | apply bA | apply bB | apply bC)); refine blk_put (cs := #[.int .u64 t432, .int .u64 t433, .bool false]) ?_ 2 _ rfl; (with_reducible repeat (first | apply bA | apply bB | apply bC)); refine blk_put (cs := #[.int .u64 t432, .int .u64 0, .bool false]) ?_ 1 _ rfl; (with_reducible repeat (first | apply bA | apply bB | apply bC)); refine blk_put (cs := #[.int .u64 0, .int .u64 0, .bool false]) ?_ 0 _ rfl; (with_reducible repeat (first | apply bA | apply bB | apply bC)); exact BK436.out⟩, ⟨by repeat (first | (with_reducible first | exact HB.out | apply dA | apply dB | apply dC | refine dE ?_ ‹_›) | exact HB.out)⟩⟩
    · rw [if_neg c40] at H
      have c40b0 : ((decide (t410 < 0)) != (decide (a0 < 0))) = false := by simpa using c40
      (try (have c40b1 : decide ((decide (t410 < 0)) = (decide (a0 < 0))) = true := by simpa using c40)); (try (have c40b2 : ((decide (t410 < 0)) == (decide (a0 < 0))) = true := by simpa using c40)); clear c40
      (first | rw [c40b0] | (simp only [i64_w, i32_w]; rw [c40b0]) | skip)
      by_cases c87 : t428 > t424
      · rw [if_pos c87] at H
        have c87b0 : decide (t424 < t428) = true := decide_eq_true c87; clear c87; have H' := Aside0.mk H; clear H; have hnb88 := NB431_418.out; have hnc88 := NB418_431.out; have hnb89 := NB431_423.out; have hnc89 := NB423_431.out; have hnb90 := NB431_427.out; have hnc90 := NB427_431.out; have hnb91 := NB431_436.out; have hnc91 := NB436_431.out; have hcz92_0 : w34.cell? ⟨gb431, 0, none⟩ = some (.int .u64 t428) := (blk_cell BK431.out 0).trans rfl; have hcz92_1 : w34.cell? ⟨gb431, 1, none⟩ = some (.int .u64 t429) := (blk_cell BK431.out 1).trans rfl; have hcz92_2 : w34.cell? ⟨gb431, 2, none⟩ = some (.bool t430) := (blk_cell BK431.out 2).trans rfl; have hfz92_0 := blk_frozen BK431.out 0; have hfz92_1 := blk_frozen BK431.out 1; have hfz92_2 := blk_frozen BK431.out 2; have hnb93 := NB427_418.out; have hnc93 := NB418_427.out; have hnb94 := NB427_423.out; have hnc94 := NB423_427.out; have hnb95 := NB427_436.out; have hnc95 := NB436_427.out; have hcz96_0 : w34.cell? ⟨gb427, 0, none⟩ = some (.int .u64 t424) := (blk_cell BK427.out 0).trans rfl; have hcz96_1 : w34.cell? ⟨gb427, 1, none⟩ = some (.int .u64 t425) := (blk_cell BK427.out 1).trans rfl; have hcz96_2 : w34.cell? ⟨gb427, 2, none⟩ = some (.bool t426) := (blk_cell BK427.out 2).trans rfl; have hfz96_0 := blk_frozen BK427.out 0; have hfz96_1 := blk_frozen BK427.out 1; have hfz96_2 := blk_frozen BK427.out 2
        go_wp2
        go_meet
        case rel => exact ⟨_, (true), (by first | rfl | (simp; done) | (simp [*]; done)), H', ⟨by first | omega | exact Nat.le_refl _⟩, ⟨by (with_reducible repeat (first | apply bA | apply bB | apply bC)); refine blk_far ?_ NB418_436.out _; (with_reducible repeat (first | apply bA | apply bB | apply bC)); refine blk_far ?_ NB418_436.out _; (with_reducible repeat (first | apply bA | apply bB | apply bC)); refine blk_far ?_ NB418_436.out _; (with_reducible repeat (first | apply bA | apply bB | apply bC)); exact BK418.out⟩, ⟨by (with_reducible repeat (first | apply bA | apply bB | apply bC)); refine blk_far ?_ NB423_436.out _; (with_reducible repeat (first | apply bA | apply bB | apply bC)); refine blk_far ?_ NB423_436.out _; (with_reducible repeat (first | apply bA | apply bB | apply bC)); refine blk_far ?_ NB423_436.out _; (with_reducible repeat (first | apply bA | apply bB | apply bC)); exact BK423.out⟩, ⟨by (with_reducible repeat (first | apply bA | apply bB | apply bC)); refine blk_far ?_ NB427_436.out _; (with_reducible repeat (first | apply bA | apply bB | apply bC)); refine blk_far ?_ NB427_436.out _; (with_reducible repeat (first | apply bA | apply bB | apply bC)); refine blk_far ?_ NB427_436.out _; (with_reducible repeat (first | apply bA | apply bB | apply bC)); exact BK427.out⟩, ⟨by (with_reducible repeat (first | apply bA | apply bB | apply bC)); refine blk_far ?_ NB431_436.out _; (with_reducible repeat (first | apply bA | apply bB | apply bC)); refine blk_far ?_ NB431_436.out _; (with_reducible repeat (first | apply bA | apply bB | apply bC)); refine blk_far ?_ NB431_436.out _; (with_reducible repeat (first | apply bA | apply bB | apply bC)); exact BK431.out⟩, ⟨by (with_reducible repeat (first | apply bA | apply bB | apply bC)); refine blk_put (cs := #[.int .u64 t432, .int .u64 t433, .bool false]) ?_ 2 _ rfl; (with_reducible repeat (first | apply bA | apply bB | apply bC)); refine blk_put (cs := #[.int .u64 t432, .int .u64 0, .bool false]) ?_ 1 _ rfl; (with_reducible repeat (first | apply bA | apply bB | apply bC)); refine blk_put (cs := #[.int .u64 0, .int .u64 0, .bool false]) ?_ 0 _ rfl; (with_reducible repeat (first | apply bA | apply bB | apply bC)); exact BK436.out⟩, ⟨by repeat (first | (with_reducible first | exact HB.out | apply dA | apply dB | apply dC | refine dE ?_ ‹_›) | exact HB.out)⟩⟩
      · rw [if_neg c87] at H
        have c87b0 : decide (t424 < t428) = false := decide_eq_false c87; clear c87
        by_cases c97 : t428 = t424
        · rw [if_pos c97] at H
          have c97b0 : (t428 == t424) = true := beq_iff_eq.mpr c97; have c97b1 : (t428 != t424) = false := bne_eq_false_iff_eq.mpr c97; clear c97
          by_cases c98 : t429 > t425
          · rw [if_pos c98] at H
            have c98b0 : decide (t425 < t429) = true := decide_eq_true c98; clear c98; have H' := Aside0.mk H; clear H; have hnb99 := NB431_418.out; have hnc99 := NB418_431.out; have hnb100 := NB431_423.out; have hnc100 := NB423_431.out; have hnb101 := NB431_427.out; have hnc101 := NB427_431.out; have hnb102 := NB431_436.out; have hnc102 := NB436_431.out; have hcz103_0 : w34.cell? ⟨gb431, 0, none⟩ = some (.int .u64 t428) := (blk_cell BK431.out 0).trans rfl; have hcz103_1 : w34.cell? ⟨gb431, 1, none⟩ = some (.int .u64 t429) := (blk_cell BK431.out 1).trans rfl; have hcz103_2 : w34.cell? ⟨gb431, 2, none⟩ = some (.bool t430) := (blk_cell BK431.out 2).trans rfl; have hfz103_0 := blk_frozen BK431.out 0; have hfz103_1 := blk_frozen BK431.out 1; have hfz103_2 := blk_frozen BK431.out 2; have hnb104 := NB427_418.out; have hnc104 := NB418_427.out; have hnb105 := NB427_423.out; have hnc105 := NB423_427.out; have hnb106 := NB427_436.out; have hnc106 := NB436_427.out; have hcz107_0 : w34.cell? ⟨gb427, 0, none⟩ = some (.int .u64 t424) := (blk_cell BK427.out 0).trans rfl; have hcz107_1 : w34.cell? ⟨gb427, 1, none⟩ = some (.int .u64 t425) := (blk_cell BK427.out 1).trans rfl; have hcz107_2 : w34.cell? ⟨gb427, 2, none⟩ = some (.bool t426) := (blk_cell BK427.out 2).trans rfl; have hfz107_0 := blk_frozen BK427.out 0; have hfz107_1 := blk_frozen BK427.out 1; have hfz107_2 := blk_frozen BK427.out 2
            go_wp2
            go_meet
            case rel => exact ⟨_, (true), (by first | rfl | (simp; done) | (simp [*]; done)), H', ⟨by first | omega | exact Nat.le_refl _⟩, ⟨by (with_reducible repeat (first | apply bA | apply bB | apply bC)); refine blk_far ?_ NB418_436.out _; (with_reducible repeat (first | apply bA | apply bB | apply bC)); refine blk_far ?_ NB418_436.out _; (with_reducible repeat (first | apply bA | apply bB | apply bC)); refine blk_far ?_ NB418_436.out _; (with_reducible repeat (first | apply bA | apply bB | apply bC)); exact BK418.out⟩, ⟨by (with_reducible repeat (first | apply bA | apply bB | apply bC)); refine blk_far ?_ NB423_436.out _; (with_reducible repeat (first | apply bA | apply bB | apply bC)); refine blk_far ?_ NB423_436.out _; (with_reducible repeat (first | apply bA | apply bB | apply bC)); refine blk_far ?_ NB423_436.out _; (with_reducible repeat (first | apply bA | apply bB | apply bC)); exact BK423.out⟩, ⟨by (with_reducible repeat (first | apply bA | apply bB | apply bC)); refine blk_far ?_ NB427_436.out _; (with_reducible repeat (first | apply bA | apply bB | apply bC)); refine blk_far ?_ NB427_436.out _; (with_reducible repeat (first | apply bA | apply bB | apply bC)); refine blk_far ?_ NB427_436.out _; (with_reducible repeat (first | apply bA | apply bB | apply bC)); exact BK427.out⟩, ⟨by (with_reducible repeat (first | apply bA | apply bB | apply bC)); refine blk_far ?_ NB431_436.out _; (with_reducible repeat (first | apply bA | apply bB | apply bC)); refine blk_far ?_ NB431_436.out _; (with_reducible repeat (first | apply bA | apply bB | apply bC)); refine blk_far ?_ NB431_436.out _; (with_reducible repeat (first | apply bA | apply bB | apply bC)); exact BK431.out⟩, ⟨by (with_reducible repeat (first | apply bA | apply bB | apply bC)); refine blk_put (cs := #[.int .u64 t432, .int .u64 t433, .bool false]) ?_ 2 _ rfl; (with_reducible repeat (first | apply bA | apply bB | apply bC)); refine blk_put (cs := #[.int .u64 t432, .int .u64 0, .bool false]) ?_ 1 _ rfl; (with_reducible repeat (first | apply bA | apply bB | apply bC)); refine blk_put (cs := #[.int .u64 0, .int .u64 0, .bool false]) ?_ 0 _ rfl; (with_reducible repeat (first | apply bA | apply bB | apply bC)); exact BK436.out⟩, ⟨by repeat (first | (with_reducible first | exact HB.out | apply dA | apply dB | apply dC | refine dE ?_ ‹_›) | exact HB.out)⟩⟩
          · rw [if_neg c98] at H
            have c98b0 : decide (t425 < t429) = false := decide_eq_false c98; clear c98; have H' := Aside0.mk H; clear H; have hnb108 := NB431_418.out; have hnc108 := NB418_431.out; have hnb109 := NB431_423.out; have hnc109 := NB423_431.out; have hnb110 := NB431_427.out; have hnc110 := NB427_431.out; have hnb111 := NB431_436.out; have hnc111 := NB436_431.out; have hcz112_0 : w34.cell? ⟨gb431, 0, none⟩ = some (.int .u64 t428) := (blk_cell BK431.out 0).trans rfl; have hcz112_1 : w34.cell? ⟨gb431, 1, none⟩ = some (.int .u64 t429) := (blk_cell BK431.out 1).trans rfl; have hcz112_2 : w34.cell? ⟨gb431, 2, none⟩ = some (.bool t430) := (blk_cell BK431.out 2).trans rfl; have hfz112_0 := blk_frozen BK431.out 0; have hfz112_1 := blk_frozen BK431.out 1; have hfz112_2 := blk_frozen BK431.out 2; have hnb113 := NB427_418.out; have hnc113 := NB418_427.out; have hnb114 := NB427_423.out; have hnc114 := NB423_427.out; have hnb115 := NB427_436.out; have hnc115 := NB436_427.out; have hcz116_0 : w34.cell? ⟨gb427, 0, none⟩ = some (.int .u64 t424) := (blk_cell BK427.out 0).trans rfl; have hcz116_1 : w34.cell? ⟨gb427, 1, none⟩ = some (.int .u64 t425) := (blk_cell BK427.out 1).trans rfl; have hcz116_2 : w34.cell? ⟨gb427, 2, none⟩ = some (.bool t426) := (blk_cell BK427.out 2).trans rfl; have hfz116_0 := blk_frozen BK427.out 0; have hfz116_1 := blk_frozen BK427.out 1; have hfz116_2 := blk_frozen BK427.out 2; have hnb117 := NB436_418.out; have hnc117 := NB418_436.out; have hnb118 := NB436_423.out; have hnc118 := NB423_436.out; have hcz119_0 : w34.cell? ⟨gb436, 0, none⟩ = some (.int .u64 0) := (blk_cell BK436.out 0).trans rfl; have hcz119_1 : w34.cell? ⟨gb436, 1, none⟩ = some (.int .u64 0) := (blk_cell BK436.out 1).trans rfl; have hcz119_2 : w34.cell? ⟨gb436, 2, none⟩ = some (.bool false) := (blk_cell BK436.out 2).trans rfl; have hfz119_0 := blk_frozen BK436.out 0; have hfz119_1 := blk_frozen BK436.out 1; have hfz119_2 := blk_frozen BK436.out 2
            go_wp2
            go_meet
            case rel => exact ⟨_, (decide (t433 ≥ (IntKind.u64.wrap (a1)))), (by first | rfl | (simp; done) | (simp [*]; done)), H', ⟨by first | omega | exact Nat.le_refl _⟩, ⟨by (with_reducible repeat (first | apply bA | apply bB | apply bC)); refine blk_far ?_ NB418_436.out _; (with_reducible repeat (first | apply bA | apply bB | apply bC)); refine blk_far ?_ NB418_436.out _; (with_reducible repeat (first | apply bA | apply bB | apply bC)); refine blk_far ?_ NB418_436.out _; (with_reducible repeat (first | apply bA | apply bB | apply bC)); exact BK418.out⟩, ⟨by (with_reducible repeat (first | apply bA | apply bB | apply bC)); refine blk_far ?_ NB423_436.out _; (with_reducible repeat (first | apply bA | apply bB | apply bC)); refine blk_far ?_ NB423_436.out _; (with_reducible repeat (first | apply bA | apply bB | apply bC)); refine blk_far ?_ NB423_436.out _; (with_reducible repeat (first | apply bA | apply bB | apply bC)); exact BK423.out⟩, ⟨by (with_reducible repeat (first | apply bA | apply bB | apply bC)); refine blk_far ?_ NB427_436.out _; (with_reducible repeat (first | apply bA | apply bB | apply bC)); refine blk_far ?_ NB427_436.out _; (with_reducible repeat (first | apply bA | apply bB | apply bC)); refine blk_far ?_ NB427_436.out _; (with_reducible repeat (first | apply bA | apply bB | apply bC)); exact BK427.out⟩, ⟨by (with_reducible repeat (first | apply bA | apply bB | apply bC)); refine blk_far ?_ NB431_436.out _; (with_reducible repeat (first | apply bA | apply bB | apply bC)); refine blk_far ?_ NB431_436.out _; (with_reducible repeat (first | apply bA | apply bB | apply bC)); refine blk_far ?_ NB431_436.out _; (with_reducible repeat (first | apply bA | apply bB | apply bC)); exact BK431.out⟩, ⟨by (with_reducible repeat (first | apply bA | apply bB | apply bC)); refine blk_put (cs := #[.int .u64 t432, .int .u64 t433, .bool false]) ?_ 2 _ rfl; (with_reducible repeat (first | apply bA | apply bB | apply bC)); refine blk_put (cs := #[.int .u64 t432, .int .u64 0, .bool false]) ?_ 1 _ rfl; (with_reducible repeat (first | apply bA | apply bB | apply bC)); refine blk_put (cs := #[.int .u64 0, .int .u64 0, .bool false]) ?_ 0 _ rfl; (with_reducible repeat (first | apply bA | apply bB | apply bC)); exact BK436.out⟩, ⟨by repeat (first | (with_reducible first | exact HB.out | apply dA | apply dB | apply dC | refine dE ?_ ‹_›) | exact HB.out)⟩⟩
        · rw [if_neg c97] at H
          have c97b0 : (t428 == t424) = false := beq_eq_false_iff_ne.mpr c97; have c97b1 : (t428 != t424) = true := bne_iff_ne.mpr c97; have H' := Aside0.mk H; clear H; have hnb120 := NB431_418.out; have hnc120 := NB418_431.out; have hnb121 := NB431_423.out; have hnc121 := NB423_431.out; have hnb122 := NB431_427.out; have hnc122 := NB427_431.out; have hnb123 := NB431_436.out; have hnc123 := NB436_431.out; have hcz124_0 : w34.cell? ⟨gb431, 0, none⟩ = some (.int .u64 t428) := (blk_cell BK431.out 0).trans rfl; have hcz124_1 : w34.cell? ⟨gb431, 1, none⟩ = some (.int .u64 t429) := (blk_cell BK431.out 1).trans rfl; have hcz124_2 : w34.cell? ⟨gb431, 2, none⟩ = some (.bool t430) := (blk_cell BK431.out 2).trans rfl; have hfz124_0 := blk_frozen BK431.out 0; have hfz124_1 := blk_frozen BK431.out 1; have hfz124_2 := blk_frozen BK431.out 2; have hnb125 := NB427_418.out; have hnc125 := NB418_427.out; have hnb126 := NB427_423.out; have hnc126 := NB423_427.out; have hnb127 := NB427_436.out; have hnc127 := NB436_427.out; have hcz128_0 : w34.cell? ⟨gb427, 0, none⟩ = some (.int .u64 t424) := (blk_cell BK427.out 0).trans rfl; have hcz128_1 : w34.cell? ⟨gb427, 1, none⟩ = some (.int .u64 t425) := (blk_cell BK427.out 1).trans rfl; have hcz128_2 : w34.cell? ⟨gb427, 2, none⟩ = some (.bool t426) := (blk_cell BK427.out 2).trans rfl; have hfz128_0 := blk_frozen BK427.out 0; have hfz128_1 := blk_frozen BK427.out 1; have hfz128_2 := blk_frozen BK427.out 2; have hnb129 := NB436_418.out; have hnc129 := NB418_436.out; have hnb130 := NB436_423.out; have hnc130 := NB423_436.out; have hcz131_0 : w34.cell? ⟨gb436, 0, none⟩ = some (.int .u64 0) := (blk_cell BK436.out 0).trans rfl; have hcz131_1 : w34.cell? ⟨gb436, 1, none⟩ = some (.int .u64 0) := (blk_cell BK436.out 1).trans rfl; have hcz131_2 : w34.cell? ⟨gb436, 2, none⟩ = some (.bool false) := (blk_cell BK436.out 2).trans rfl; have hfz131_0 := blk_frozen BK436.out 0; have hfz131_1 := blk_frozen BK436.out 1; have hfz131_2 := blk_frozen BK436.out 2
          go_wp2
          go_meet
          case rel => exact ⟨_, (decide (t433 ≥ (IntKind.u64.wrap (a1)))), (by first | rfl | (simp; done) | (simp [*]; done)), H', ⟨by first | omega | exact Nat.le_refl _⟩, ⟨by (with_reducible repeat (first | apply bA | apply bB | apply bC)); refine blk_far ?_ NB418_436.out _; (with_reducible repeat (first | apply bA | apply bB | apply bC)); refine blk_far ?_ NB418_436.out _; (with_reducible repeat (first | apply bA | apply bB | apply bC)); refine blk_far ?_ NB418_436.out _; (with_reducible repeat (first | apply bA | apply bB | apply bC)); exact BK418.out⟩, ⟨by (with_reducible repeat (first | apply bA | apply bB | apply bC)); refine blk_far ?_ NB423_436.out _; (with_reducible repeat (first | apply bA | apply bB | apply bC)); refine blk_far ?_ NB423_436.out _; (with_reducible repeat (first | apply bA | apply bB | apply bC)); refine blk_far ?_ NB423_436.out _; (with_reducible repeat (first | apply bA | apply bB | apply bC)); exact BK423.out⟩, ⟨by (with_reducible repeat (first | apply bA | apply bB | apply bC)); refine blk_far ?_ NB427_436.out _; (with_reducible repeat (first | apply bA | apply bB | apply bC)); refine blk_far ?_ NB427_436.out _; (with_reducible repeat (first | apply bA | apply bB | apply bC)); refine blk_far ?_ NB427_436.out _; (with_reducible repeat (first | apply bA | apply bB | apply bC)); exact BK427.out⟩, ⟨by (with_reducible repeat (first | apply bA | apply bB | apply bC)); refine blk_far ?_ NB431_436.out _; (with_reducible repeat (first | apply bA | apply bB | apply bC)); refine blk_far ?_ NB431_436.out _; (with_reducible repeat (first | apply bA | apply bB | apply bC)); refine blk_far ?_ NB431_436.out _; (with_reducible repeat (first | apply bA | apply bB | apply bC)); exact BK431.out⟩, ⟨by (with_reducible repeat (first | apply bA | apply bB | apply bC)); refine blk_put (cs := #[.int .u64 t432, .int .u64 t433, .bool false]) ?_ 2 _ rfl; (with_reducible repeat (first | apply bA | apply bB | apply bC)); refine blk_put (cs := #[.int .u64 t432, .int .u64 0, .bool false]) ?_ 1 _ rfl; (with_reducible repeat (first | apply bA | apply bB | apply bC)); refine blk_put (cs := #[.int .u64 0, .int .u64 0, .bool false]) ?_ 0 _ rfl; (with_reducible repeat (first | apply bA | apply bB | apply bC)); exact BK436.out⟩, ⟨by repeat (first | (with_reducible first | exact HB.out | apply dA | apply dB | apply dC | refine dE ?_ ‹_›) | exact HB.out)⟩⟩
   case rest =>
    clear HC10
    try clear c1
    try clear c2
    try clear p2
    try clear c3
    try clear c4
    try clear c4b0
    try clear c4b1
    try clear c5
    try clear c6
    try clear p6
    try clear c7
    try clear c8
    try clear c9
    try clear c10
    try clear c11
    try clear c12
    try clear c13
    try clear c17
    try clear c18
    try clear c22
    try clear c23
    try clear c26
    try clear c28
    try clear c29
    try clear c30
    try clear c35
    try clear c36
    try clear c37
    try clear c38
    try clear c40
    try clear c40b0
    try clear c40b1
    try clear c40b2
    try clear c41
    try clear c41b0
    try clear c41b1
    try clear c42
    try clear c42b0
    try clear c43
    try clear c44
    try clear c45
    try clear c46
    try clear c48
    try clear c49
    try clear c50
    try clear c52
    try clear c52b0
    try clear c52b1
    try clear c53
    try clear c53b0
    try clear c54
    try clear c55
    try clear c56
    try clear c57
    try clear c59
    try clear c60
    try clear c61
    try clear c63
    try clear c64
    try clear p64
    try clear c65
    try clear c66
    try clear c68
    try clear c69
    try clear c70
    try clear c72
    try clear c73
    try clear c75
    try clear c76
    try clear c77
    try clear c78
    try clear c80
    try clear c81
    try clear c82
    try clear c84
    try clear c85
    try clear c87
    try clear c87b0
    try clear c88
    try clear c89
    try clear c90
    try clear c91
    try clear c93
    try clear c94
    try clear c95
    try clear c97
    try clear c97b0
    try clear c97b1
    try clear c98
    try clear c98b0
    try clear c99
    try clear c100
    try clear c101
    try clear c102
    try clear c104
    try clear c105
    try clear c106
    try clear c108
    try clear c109
    try clear c110
    try clear c111
    try clear c113
    try clear c114
    try clear c115
    try clear c117
    try clear c118
    try clear c120
    try clear c121
    try clear c122
    try clear c123
    try clear c125
    try clear c126
    try clear c127
    try clear c129
    try clear c130
    try clear hcz103_0
    try clear hcz103_1
    try clear hcz103_2
    try clear hcz107_0
    try clear hcz107_1
    try clear hcz107_2
    try clear hcz112_0
    try clear hcz112_1
    try clear hcz112_2
    try clear hcz116_0
    try clear hcz116_1
    try clear hcz116_2
    try clear hcz119_0
    try clear hcz119_1
    try clear hcz119_2
    try clear hcz124_0
    try clear hcz124_1
    try clear hcz124_2
    try clear hcz128_0
    try clear hcz128_1
    try clear hcz128_2
    try clear hcz131_0
    try clear hcz131_1
    try clear hcz131_2
    try clear hcz14_0
    try clear hcz14_1
    try clear hcz14_2
    try clear hcz18_0
    try clear hcz18_1
    try clear hcz18_2
    try clear hcz19_0
    try clear hcz19_1
    try clear hcz19_2
    try clear hcz24_0
    try clear hcz24_1
    try clear hcz24_2
    try clear hcz25_0
    try clear hcz25_1
    try clear hcz25_2
    try clear hcz31_0
    try clear hcz31_1
    try clear hcz31_2
    try clear hcz32_0
    try clear hcz32_1
    try clear hcz32_2
    try clear hcz39_0
    try clear hcz39_1
    try clear hcz39_2
    try clear hcz47_0
    try clear hcz47_1
    try clear hcz47_2
    try clear hcz51_0
    try clear hcz51_1
    try clear hcz51_2
    try clear hcz58_0
    try clear hcz58_1
    try clear hcz58_2
    try clear hcz62_0
    try clear hcz62_1
    try clear hcz62_2
    try clear hcz67_0
    try clear hcz67_1
    try clear hcz67_2
    try clear hcz71_0
    try clear hcz71_1
    try clear hcz71_2
    try clear hcz74_0
    try clear hcz74_1
    try clear hcz74_2
    try clear hcz79_0
    try clear hcz79_1
    try clear hcz79_2
    try clear hcz83_0
    try clear hcz83_1
    try clear hcz83_2
    try clear hcz86_0
    try clear hcz86_1
    try clear hcz86_2
    try clear hcz92_0
    try clear hcz92_1
    try clear hcz92_2
    try clear hcz96_0
    try clear hcz96_1
    try clear hcz96_2
    try clear hfz103_0
    try clear hfz103_1
    try clear hfz103_2
    try clear hfz107_0
    try clear hfz107_1
    try clear hfz107_2
    try clear hfz112_0
    try clear hfz112_1
    try clear hfz112_2
    try clear hfz116_0
    try clear hfz116_1
    try clear hfz116_2
    try clear hfz119_0
    try clear hfz119_1
    try clear hfz119_2
    try clear hfz124_0
    try clear hfz124_1
    try clear hfz124_2
    try clear hfz128_0
    try clear hfz128_1
    try clear hfz128_2
    try clear hfz131_0
    try clear hfz131_1
    try clear hfz131_2
    try clear hfz14_0
    try clear hfz14_1
    try clear hfz14_2
    try clear hfz18_0
    try clear hfz18_1
    try clear hfz18_2
    try clear hfz19_0
    try clear hfz19_1
    try clear hfz19_2
    try clear hfz24_0
    try clear hfz24_1
    try clear hfz24_2
    try clear hfz25_0
    try clear hfz25_1
    try clear hfz25_2
    try clear hfz31_0
    try clear hfz31_1
    try clear hfz31_2
    try clear hfz32_0
    try clear hfz32_1
    try clear hfz32_2
    try clear hfz39_0
    try clear hfz39_1
    try clear hfz39_2
    try clear hfz47_0
    try clear hfz47_1
    try clear hfz47_2
    try clear hfz51_0
    try clear hfz51_1
    try clear hfz51_2
    try clear hfz58_0
    try clear hfz58_1
    try clear hfz58_2
    try clear hfz62_0
    try clear hfz62_1
    try clear hfz62_2
    try clear hfz67_0
    try clear hfz67_1
    try clear hfz67_2
    try clear hfz71_0
    try clear hfz71_1
    try clear hfz71_2
    try clear hfz74_0
    try clear hfz74_1
    try clear hfz74_2
    try clear hfz79_0
    try clear hfz79_1
    try clear hfz79_2
    try clear hfz83_0
    try clear hfz83_1
    try clear hfz83_2
    try clear hfz86_0
    try clear hfz86_1
    try clear hfz86_2
    try clear hfz92_0
    try clear hfz92_1
    try clear hfz92_2
    try clear hfz96_0
    try clear hfz96_1
    try clear hfz96_2
    obtain ⟨kq, x119_9, rfl, HA, HJ9, BK418, BK423, BK427, BK431, BK436, HB⟩ := hcut
    cases kq with
    | zero => exact absurd HA.out (by simp [tumblerlaw02_MicroSent.j0])
    | succ kj9 =>
     have H := HA.out; clear HA
     simp only [tumblerlaw02_MicroSent.j0] at H
     by_cases c132 : x119_9 = true
     · subst c132
       have H1 : (some false) = some r := by rw [if_pos rfl] at H; exact H
       clear H; have H := H1; clear H1
       obtain rfl := Option.some.inj H
       go_wp2
       go_ret
       exact ⟨by first | rfl | (simp [errW_none, errW_some] <;> rfl) | (simp [*, errW_none, errW_some] <;> rfl), by repeat (first | (with_reducible first | exact HB.out | apply dA | apply dB | apply dC | refine dE ?_ ‹_›) | exact HB.out)⟩
     · replace c132 := Bool.eq_false_iff.mpr c132
       subst c132
       have H1 : (if a1 = 1000000 then (tumblerlaw02_MicroSent.j1 kj9 a0 a1 t410 (t410 != a0)) else (tumblerlaw02_MicroSent.j1 kj9 a0 a1 t410 false)) = some r := by rw [if_neg (show ¬ (false = true) by decide)] at H; exact H
       clear H; have H := H1; clear H1; have HC133 := Aside0.mk H; clear H
       go_upto_region 12 with (fail)
       go_cut [126] (fun v126 wc => ∃ (kq : Nat) (x126_132 : Bool), v126 = .bool x126_132 ∧ Aside0 (tumblerlaw02_MicroSent.j1 kq a0 a1 t410 x126_132 = some r) ∧ Aside0 (kq ≤ kj9) ∧ Aside0 (wc.heap[gb418]? = some (.cells #[.int .u64 t414, .int .u64 t415, .bool t416] 35 (0, 0))) ∧ Aside0 (wc.heap[gb423]? = some (.cells #[.int .u64 t419, .int .u64 t420, .bool t421] 35 (0, 0))) ∧ Aside0 (wc.heap[gb427]? = some (.cells #[.int .u64 t424, .int .u64 t425, .bool t426] 35 (0, 0))) ∧ Aside0 (wc.heap[gb431]? = some (.cells #[.int .u64 t428, .int .u64 t429, .bool t430] 35 (0, 0))) ∧ Aside0 (wc.heap[gb436]? = some (.cells #[.int .u64 t432, .int .u64 t433, .bool t434] 35 (0, 0))) ∧ Aside0 (Below w.heap.size w wc))
       case first =>
        have H := HC133.out; clear HC133
        by_cases c134 : a1 = 1000000
        · rw [if_pos c134] at H
          have c134b0 : (a1 == 1000000) = true := beq_iff_eq.mpr c134; have c134b1 : (a1 != 1000000) = false := bne_eq_false_iff_eq.mpr c134; clear c134
          (first | rw [c134b0] | (simp only [i64_w, i32_w]; rw [c134b0]) | skip)
          have H' := Aside0.mk H; clear H
          go_wp2
          go_meet
          case rel => exact ⟨_, ((t410 != a0)), (by first | rfl | (simp; done) | (simp [*]; done)), H', ⟨by have := HJ9.out; first | omega | exact Nat.le_refl _⟩, ⟨by (with_reducible repeat (first | apply bA | apply bB | apply bC)); exact BK418.out⟩, ⟨by (with_reducible repeat (first | apply bA | apply bB | apply bC)); exact BK423.out⟩, ⟨by (with_reducible repeat (first | apply bA | apply bB | apply bC)); exact BK427.out⟩, ⟨by (with_reducible repeat (first | apply bA | apply bB | apply bC)); exact BK431.out⟩, ⟨by (with_reducible repeat (first | apply bA | apply bB | apply bC)); exact BK436.out⟩, ⟨by repeat (first | (with_reducible first | exact HB.out | apply dA | apply dB | apply dC | refine dE ?_ ‹_›) | exact HB.out)⟩⟩
        · rw [if_neg c134] at H
          have c134b0 : (a1 == 1000000) = false := beq_eq_false_iff_ne.mpr c134; have c134b1 : (a1 != 1000000) = true := bne_iff_ne.mpr c134
          (first | rw [c134b0] | (simp only [i64_w, i32_w]; rw [c134b0]) | skip)
          have H' := Aside0.mk H; clear H
          go_wp2
          go_meet
          case rel => exact ⟨_, (false), (by first | rfl | (simp; done) | (simp [*]; done)), H', ⟨by have := HJ9.out; first | omega | exact Nat.le_refl _⟩, ⟨by (with_reducible repeat (first | apply bA | apply bB | apply bC)); exact BK418.out⟩, ⟨by (with_reducible repeat (first | apply bA | apply bB | apply bC)); exact BK423.out⟩, ⟨by (with_reducible repeat (first | apply bA | apply bB | apply bC)); exact BK427.out⟩, ⟨by (with_reducible repeat (first | apply bA | apply bB | apply bC)); exact BK431.out⟩, ⟨by (with_reducible repeat (first | apply bA | apply bB | apply bC)); exact BK436.out⟩, ⟨by repeat (first | (with_reducible first | exact HB.out | apply dA | apply dB | apply dC | refine dE ?_ ‹_›) | exact HB.out)⟩⟩
       case rest =>
        clear HC133
        try clear c1
        try clear c2
        try clear p2
        try clear c3
        try clear c4
        try clear c4b0
        try clear c4b1
        try clear c5
        try clear c6
        try clear p6
        try clear c7
        try clear c8
        try clear c9
        try clear c10
        try clear c11
        try clear c12
        try clear c13
        try clear c17
        try clear c18
        try clear c22
        try clear c23
        try clear c26
        try clear c28
        try clear c29
        try clear c30
        try clear c35
        try clear c36
        try clear c37
        try clear c38
        try clear c40
        try clear c40b0
        try clear c40b1
        try clear c40b2
        try clear c41
        try clear c41b0
        try clear c41b1
        try clear c42
        try clear c42b0
        try clear c43
        try clear c44
        try clear c45
        try clear c46
        try clear c48
        try clear c49
        try clear c50
        try clear c52
        try clear c52b0
        try clear c52b1
        try clear c53
        try clear c53b0
        try clear c54
        try clear c55
        try clear c56
        try clear c57
        try clear c59
        try clear c60
        try clear c61
        try clear c63
        try clear c64
        try clear p64
        try clear c65
        try clear c66
        try clear c68
        try clear c69
        try clear c70
        try clear c72
        try clear c73
        try clear c75
        try clear c76
        try clear c77
        try clear c78
        try clear c80
        try clear c81
        try clear c82
        try clear c84
        try clear c85
        try clear c87
        try clear c87b0
        try clear c88
        try clear c89
        try clear c90
        try clear c91
        try clear c93
        try clear c94
        try clear c95
        try clear c97
        try clear c97b0
        try clear c97b1
        try clear c98
        try clear c98b0
        try clear c99
        try clear c100
        try clear c101
        try clear c102
        try clear c104
        try clear c105
        try clear c106
        try clear c108
        try clear c109
        try clear c110
        try clear c111
        try clear c113
        try clear c114
        try clear c115
        try clear c117
        try clear c118
        try clear c120
        try clear c121
        try clear c122
        try clear c123
        try clear c125
        try clear c126
        try clear c127
        try clear c129
        try clear c130
        try clear c132
        try clear c134
        try clear c134b0
        try clear c134b1
        try clear hcz103_0
        try clear hcz103_1
        try clear hcz103_2
        try clear hcz107_0
        try clear hcz107_1
        try clear hcz107_2
        try clear hcz112_0
        try clear hcz112_1
        try clear hcz112_2
        try clear hcz116_0
        try clear hcz116_1
        try clear hcz116_2
        try clear hcz119_0
        try clear hcz119_1
        try clear hcz119_2
        try clear hcz124_0
        try clear hcz124_1
        try clear hcz124_2
        try clear hcz128_0
        try clear hcz128_1
        try clear hcz128_2
        try clear hcz131_0
        try clear hcz131_1
        try clear hcz131_2
        try clear hcz14_0
        try clear hcz14_1
        try clear hcz14_2
        try clear hcz18_0
        try clear hcz18_1
        try clear hcz18_2
        try clear hcz19_0
        try clear hcz19_1
        try clear hcz19_2
        try clear hcz24_0
        try clear hcz24_1
        try clear hcz24_2
        try clear hcz25_0
        try clear hcz25_1
        try clear hcz25_2
        try clear hcz31_0
        try clear hcz31_1
        try clear hcz31_2
        try clear hcz32_0
        try clear hcz32_1
        try clear hcz32_2
        try clear hcz39_0
        try clear hcz39_1
        try clear hcz39_2
        try clear hcz47_0
        try clear hcz47_1
        try clear hcz47_2
        try clear hcz51_0
        try clear hcz51_1
        try clear hcz51_2
        try clear hcz58_0
        try clear hcz58_1
        try clear hcz58_2
        try clear hcz62_0
        try clear hcz62_1
        try clear hcz62_2
        try clear hcz67_0
        try clear hcz67_1
        try clear hcz67_2
        try clear hcz71_0
        try clear hcz71_1
        try clear hcz71_2
        try clear hcz74_0
        try clear hcz74_1
        try clear hcz74_2
        try clear hcz79_0
        try clear hcz79_1
        try clear hcz79_2
        try clear hcz83_0
        try clear hcz83_1
        try clear hcz83_2
        try clear hcz86_0
        try clear hcz86_1
        try clear hcz86_2
        try clear hcz92_0
        try clear hcz92_1
        try clear hcz92_2
        try clear hcz96_0
        try clear hcz96_1
        try clear hcz96_2
        try clear hfz103_0
        try clear hfz103_1
        try clear hfz103_2
        try clear hfz107_0
        try clear hfz107_1
        try clear hfz107_2
        try clear hfz112_0
        try clear hfz112_1
        try clear hfz112_2
        try clear hfz116_0
        try clear hfz116_1
        try clear hfz116_2
        try clear hfz119_0
        try clear hfz119_1
        try clear hfz119_2
        try clear hfz124_0
        try clear hfz124_1
        try clear hfz124_2
        try clear hfz128_0
        try clear hfz128_1
        try clear hfz128_2
        try clear hfz131_0
        try clear hfz131_1
        try clear hfz131_2
        try clear hfz14_0
        try clear hfz14_1
        try clear hfz14_2
        try clear hfz18_0
        try clear hfz18_1
        try clear hfz18_2
        try clear hfz19_0
        try clear hfz19_1
        try clear hfz19_2
        try clear hfz24_0
        try clear hfz24_1
        try clear hfz24_2
        try clear hfz25_0
        try clear hfz25_1
        try clear hfz25_2
        try clear hfz31_0
        try clear hfz31_1
        try clear hfz31_2
        try clear hfz32_0
        try clear hfz32_1
        try clear hfz32_2
        try clear hfz39_0
        try clear hfz39_1
        try clear hfz39_2
        try clear hfz47_0
        try clear hfz47_1
        try clear hfz47_2
        try clear hfz51_0
        try clear hfz51_1
        try clear hfz51_2
        try clear hfz58_0
        try clear hfz58_1
        try clear hfz58_2
        try clear hfz62_0
        try clear hfz62_1
        try clear hfz62_2
        try clear hfz67_0
        try clear hfz67_1
        try clear hfz67_2
        try clear hfz71_0
        try clear hfz71_1
        try clear hfz71_2
        try clear hfz74_0
        try clear hfz74_1
        try clear hfz74_2
        try clear hfz79_0
        try clear hfz79_1
        try clear hfz79_2
        try clear hfz83_0
        try clear hfz83_1
        try clear hfz83_2
        try clear hfz86_0
        try clear hfz86_1
        try clear hfz86_2
        try clear hfz92_0
        try clear hfz92_1
        try clear hfz92_2
        try clear hfz96_0
        try clear hfz96_1
        try clear hfz96_2
        try clear p2
        try clear p6
        try clear p64
        obtain ⟨kq, x126_132, rfl, HA, HJ132, BK418, BK423, BK427, BK431, BK436, HB⟩ := hcut
        cases kq with
        | zero => exact absurd HA.out (by simp [tumblerlaw02_MicroSent.j1])
        | succ kj132 =>
         have H := HA.out; clear HA
         simp only [tumblerlaw02_MicroSent.j1] at H
         by_cases c135 : x126_132 = true
         · subst c135
           have H1 : (some false) = some r := by rw [if_pos rfl] at H; exact H
           clear H; have H := H1; clear H1
           obtain rfl := Option.some.inj H
           go_wp2
           go_ret
           exact ⟨by first | rfl | (simp [errW_none, errW_some] <;> rfl) | (simp [*, errW_none, errW_some] <;> rfl), by repeat (first | (with_reducible first | exact HB.out | apply dA | apply dB | apply dC | refine dE ?_ ‹_›) | exact HB.out)⟩
         · replace c135 := Bool.eq_false_iff.mpr c135
           subst c135
           have H1 : (if a0 < 1000000000000000 then ((micro_Scale.f kj132 (wrap64 (a0 + 1)) a1).bind fun bt437 => (if bt437.2 = 0 then (some (decide (bt437.1 ≥ t410))) else (some false))) else (some true)) = some r := by rw [if_neg (show ¬ (false = true) by decide)] at H; exact H
           clear H; have H := H1; clear H1
           by_cases c136 : a0 < 1000000000000000
           · rw [if_pos c136] at H
             have c136b0 : decide (a0 < 1000000000000000) = true := decide_eq_true c136; clear c136
             replace H := Option.bind_eq_some_iff.mp H
             obtain ⟨⟨t437, t438⟩, A1370, H⟩ := H
             replace H : (if t438 = 0 then (some (decide (t437 ≥ t410))) else (some false)) = some r := H
             have A137 := Aside0.mk A1370; clear A1370
             by_cases c138 : t438 = 0
             · rw [if_pos c138] at H
               have c138b0 : (t438 == 0) = true := beq_iff_eq.mpr c138; have c138b1 : (t438 != 0) = false := bne_eq_false_iff_eq.mpr c138; clear c138
               obtain rfl := Option.some.inj H
               go_wp2_with (first | ((with_reducible refine gate_callee (f := 26) rfl ?_); refine goesL_ (some 133) rfl rfl Try.func26 (by kernel_rfl) rfl #[.int .i64 (wrap64 (a0 + 1)), .int .i64 a1] rfl (by (try simp only [List.map_toArray, List.map_cons, List.map_nil]); first | done | rfl | (simp only [List.length_drop, List.length_take]; rfl)) ?_; (with_reducible refine (micro_Scale.calls kj132 (wrap64 (a0 + 1)) a1 t437 t438 _ A137.out).mono ?_); rintro e w139 ⟨rfl, hb⟩; refine ⟨_, rfl, ?_⟩; have n0_ := am (bb BK418 hb); have n1_ := am (bb BK423 hb); have n2_ := am (bb BK427 hb); have n3_ := am (bb BK431 hb); have n4_ := am (bb BK436 hb); have n5_ := am (below_step bz hb); clear BK418; clear BK423; clear BK427; clear BK431; clear BK436; clear HB; have BK418 := n0_; have BK423 := n1_; have BK427 := n2_; have BK431 := n3_; have BK436 := n4_; have HB := n5_; clear n0_ n1_ n2_ n3_ n4_ n5_; (try clear hb); (try clear hb2); (try clear hk); (try clear hi)))
               go_ret
               exact ⟨by first | rfl | (simp [errW_none, errW_some] <;> rfl) | (simp [*, errW_none, errW_some] <;> rfl), by repeat (first | (with_reducible first | exact HB.out | apply dA | apply dB | apply dC | refine dE ?_ ‹_›) | exact HB.out)⟩
             · rw [if_neg c138] at H
               have c138b0 : (t438 == 0) = false := beq_eq_false_iff_ne.mpr c138; have c138b1 : (t438 != 0) = true := bne_iff_ne.mpr c138
               obtain rfl := Option.some.inj H
               go_wp2_with (first | ((with_reducible refine gate_callee (f := 26) rfl ?_); refine goesL_ (some 133) rfl rfl Try.func26 (by kernel_rfl) rfl #[.int .i64 (wrap64 (a0 + 1)), .int .i64 a1] rfl (by (try simp only [List.map_toArray, List.map_cons, List.map_nil]); first | done | rfl | (simp only [List.length_drop, List.length_take]; rfl)) ?_; (with_reducible refine (micro_Scale.calls kj132 (wrap64 (a0 + 1)) a1 t437 t438 _ A137.out).mono ?_); rintro e w140 ⟨rfl, hb⟩; refine ⟨_, rfl, ?_⟩; have n0_ := am (bb BK418 hb); have n1_ := am (bb BK423 hb); have n2_ := am (bb BK427 hb); have n3_ := am (bb BK431 hb); have n4_ := am (bb BK436 hb); have n5_ := am (below_step bz hb); clear BK418; clear BK423; clear BK427; clear BK431; clear BK436; clear HB; have BK418 := n0_; have BK423 := n1_; have BK427 := n2_; have BK431 := n3_; have BK436 := n4_; have HB := n5_; clear n0_ n1_ n2_ n3_ n4_ n5_; (try clear hb); (try clear hb2); (try clear hk); (try clear hi)))
               go_ret
               exact ⟨by first | rfl | (simp [errW_none, errW_some] <;> rfl) | (simp [*, errW_none, errW_some] <;> rfl), by repeat (first | (with_reducible first | exact HB.out | apply dA | apply dB | apply dC | refine dE ?_ ‹_›) | exact HB.out)⟩
           · rw [if_neg c136] at H
             have c136b0 : decide (a0 < 1000000000000000) = false := decide_eq_false c136; clear c136
             obtain rfl := Option.some.inj H
             go_wp2
             go_ret
             exact ⟨by first | rfl | (simp [errW_none, errW_some] <;> rfl) | (simp [*, errW_none, errW_some] <;> rfl), by repeat (first | (with_reducible first | exact HB.out | apply dA | apply dB | apply dC | refine dE ?_ ‹_›) | exact HB.out)⟩
 · rw [if_neg c4] at H
   have c4b0 : (t411 == 0) = false := beq_eq_false_iff_ne.mpr c4; have c4b1 : (t411 != 0) = true := bne_iff_ne.mpr c4
   replace H := Option.bind_eq_some_iff.mp H
   obtain ⟨⟨t412, t413⟩, A1410, H⟩ := H
   replace H : (if t410 = 0 then (if t412 = 7 then (if t413 = 0 then (if a0 > 1000000000000000 then (some true) else (if a0 < (-1000000000000000) then (some true) else (if a1 < 1000 then (some true) else (some (decide (a1 > 1000000)))))) else (some false)) else (some false)) else (some false)) = some r := H
   have A141 := Aside0.mk A1410; clear A1410
   by_cases c142 : t410 = 0
   · rw [if_pos c142] at H
     have c142b0 : (t410 == 0) = true := beq_iff_eq.mpr c142; have c142b1 : (t410 != 0) = false := bne_eq_false_iff_eq.mpr c142; clear c142
     by_cases c143 : t412 = 7
     · rw [if_pos c143] at H
       have c143b0 : (t412 == 7) = true := beq_iff_eq.mpr c143; have c143b1 : (t412 != 7) = false := bne_eq_false_iff_eq.mpr c143; clear c143
       by_cases c144 : t413 = 0
       · rw [if_pos c144] at H
         have c144b0 : (t413 == 0) = true := beq_iff_eq.mpr c144; have c144b1 : (t413 != 0) = false := bne_eq_false_iff_eq.mpr c144; clear c144
         by_cases c145 : a0 > 1000000000000000
         · rw [if_pos c145] at H
           have c145b0 : decide (1000000000000000 < a0) = true := decide_eq_true c145; clear c145
           obtain rfl := Option.some.inj H
           go_enter Try.func12, Try.ntmps12
           go_wp2_with (first | ((with_reducible refine gate_callee (f := 26) rfl ?_); refine goesL_ (some 22) rfl rfl Try.func26 (by kernel_rfl) rfl #[.int .i64 a0, .int .i64 a1] rfl (by (try simp only [List.map_toArray, List.map_cons, List.map_nil]); first | done | rfl | (simp only [List.length_drop, List.length_take]; rfl)) ?_; (with_reducible refine (micro_Scale.calls k a0 a1 t410 t411 _ A3.out).mono ?_); rintro e w146 ⟨rfl, hb⟩; refine ⟨_, rfl, ?_⟩; have n0_ := am (below_step bz hb); clear HB; have HB := n0_; clear n0_; (try clear hb); (try clear hb2); (try clear hk); (try clear hi)) | ((with_reducible refine gate_callee (f := 26) rfl ?_); refine goesL_ (some 28) rfl rfl Try.func26 (by kernel_rfl) rfl #[.int .i64 7, .int .i64 1000000] rfl (by (try simp only [List.map_toArray, List.map_cons, List.map_nil]); first | done | rfl | (simp only [List.length_drop, List.length_take]; rfl)) ?_; (with_reducible refine (micro_Scale.calls k 7 1000000 t412 t413 _ A141.out).mono ?_); rintro e w147 ⟨rfl, hb⟩; refine ⟨_, rfl, ?_⟩; have n0_ := am (below_step bz hb); clear HB; have HB := n0_; clear n0_; (try clear hb); (try clear hb2); (try clear hk); (try clear hi)))
           go_ret
           exact ⟨by first | rfl | (simp [errW_none, errW_some] <;> rfl) | (simp [*, errW_none, errW_some] <;> rfl), by repeat (first | (with_reducible first | exact HB.out | apply dA | apply dB | apply dC) | exact HB.out)⟩
         · rw [if_neg c145] at H
           have c145b0 : decide (1000000000000000 < a0) = false := decide_eq_false c145; clear c145
           by_cases c148 : a0 < (-1000000000000000)
           · rw [if_pos c148] at H
             have c148b0 : decide (a0 < (-1000000000000000)) = true := decide_eq_true c148; clear c148
             obtain rfl := Option.some.inj H
             go_enter Try.func12, Try.ntmps12
             go_wp2_with (first | ((with_reducible refine gate_callee (f := 26) rfl ?_); refine goesL_ (some 22) rfl rfl Try.func26 (by kernel_rfl) rfl #[.int .i64 a0, .int .i64 a1] rfl (by (try simp only [List.map_toArray, List.map_cons, List.map_nil]); first | done | rfl | (simp only [List.length_drop, List.length_take]; rfl)) ?_; (with_reducible refine (micro_Scale.calls k a0 a1 t410 t411 _ A3.out).mono ?_); rintro e w149 ⟨rfl, hb⟩; refine ⟨_, rfl, ?_⟩; have n0_ := am (below_step bz hb); clear HB; have HB := n0_; clear n0_; (try clear hb); (try clear hb2); (try clear hk); (try clear hi)) | ((with_reducible refine gate_callee (f := 26) rfl ?_); refine goesL_ (some 28) rfl rfl Try.func26 (by kernel_rfl) rfl #[.int .i64 7, .int .i64 1000000] rfl (by (try simp only [List.map_toArray, List.map_cons, List.map_nil]); first | done | rfl | (simp only [List.length_drop, List.length_take]; rfl)) ?_; (with_reducible refine (micro_Scale.calls k 7 1000000 t412 t413 _ A141.out).mono ?_); rintro e w150 ⟨rfl, hb⟩; refine ⟨_, rfl, ?_⟩; have n0_ := am (below_step bz hb); clear HB; have HB := n0_; clear n0_; (try clear hb); (try clear hb2); (try clear hk); (try clear hi)))
             go_ret
             exact ⟨by first | rfl | (simp [errW_none, errW_some] <;> rfl) | (simp [*, errW_none, errW_some] <;> rfl), by repeat (first | (with_reducible first | exact HB.out | apply dA | apply dB | apply dC) | exact HB.out)⟩
           · rw [if_neg c148] at H
             have c148b0 : decide (a0 < (-1000000000000000)) = false := decide_eq_false c148; clear c148
             by_cases c151 : a1 < 1000
             · rw [if_pos c151] at H
               have c151b0 : decide (a1 < 1000) = true := decide_eq_true c151; clear c151
               obtain rfl := Option.some.inj H
               go_enter Try.func12, Try.ntmps12
               go_wp2_with (first | ((with_reducible refine gate_callee (f := 26) rfl ?_); refine goesL_ (some 22) rfl rfl Try.func26 (by kernel_rfl) rfl #[.int .i64 a0, .int .i64 a1] rfl (by (try simp only [List.map_toArray, List.map_cons, List.map_nil]); first | done | rfl | (simp only [List.length_drop, List.length_take]; rfl)) ?_; (with_reducible refine (micro_Scale.calls k a0 a1 t410 t411 _ A3.out).mono ?_); rintro e w152 ⟨rfl, hb⟩; refine ⟨_, rfl, ?_⟩; have n0_ := am (below_step bz hb); clear HB; have HB := n0_; clear n0_; (try clear hb); (try clear hb2); (try clear hk); (try clear hi)) | ((with_reducible refine gate_callee (f := 26) rfl ?_); refine goesL_ (some 28) rfl rfl Try.func26 (by kernel_rfl) rfl #[.int .i64 7, .int .i64 1000000] rfl (by (try simp only [List.map_toArray, List.map_cons, List.map_nil]); first | done | rfl | (simp only [List.length_drop, List.length_take]; rfl)) ?_; (with_reducible refine (micro_Scale.calls k 7 1000000 t412 t413 _ A141.out).mono ?_); rintro e w153 ⟨rfl, hb⟩; refine ⟨_, rfl, ?_⟩; have n0_ := am (below_step bz hb); clear HB; have HB := n0_; clear n0_; (try clear hb); (try clear hb2); (try clear hk); (try clear hi)))
               go_ret
               exact ⟨by first | rfl | (simp [errW_none, errW_some] <;> rfl) | (simp [*, errW_none, errW_some] <;> rfl), by repeat (first | (with_reducible first | exact HB.out | apply dA | apply dB | apply dC) | exact HB.out)⟩
             · rw [if_neg c151] at H
               have c151b0 : decide (a1 < 1000) = false := decide_eq_false c151; clear c151
               obtain rfl := Option.some.inj H
               go_enter Try.func12, Try.ntmps12
               go_wp2_with (first | ((with_reducible refine gate_callee (f := 26) rfl ?_); refine goesL_ (some 22) rfl rfl Try.func26 (by kernel_rfl) rfl #[.int .i64 a0, .int .i64 a1] rfl (by (try simp only [List.map_toArray, List.map_cons, List.map_nil]); first | done | rfl | (simp only [List.length_drop, List.length_take]; rfl)) ?_; (with_reducible refine (micro_Scale.calls k a0 a1 t410 t411 _ A3.out).mono ?_); rintro e w154 ⟨rfl, hb⟩; refine ⟨_, rfl, ?_⟩; have n0_ := am (below_step bz hb); clear HB; have HB := n0_; clear n0_; (try clear hb); (try clear hb2); (try clear hk); (try clear hi)) | ((with_reducible refine gate_callee (f := 26) rfl ?_); refine goesL_ (some 28) rfl rfl Try.func26 (by kernel_rfl) rfl #[.int .i64 7, .int .i64 1000000] rfl (by (try simp only [List.map_toArray, List.map_cons, List.map_nil]); first | done | rfl | (simp only [List.length_drop, List.length_take]; rfl)) ?_; (with_reducible refine (micro_Scale.calls k 7 1000000 t412 t413 _ A141.out).mono ?_); rintro e w155 ⟨rfl, hb⟩; refine ⟨_, rfl, ?_⟩; have n0_ := am (below_step bz hb); clear HB; have HB := n0_; clear n0_; (try clear hb); (try clear hb2); (try clear hk); (try clear hi)))
               go_ret
               exact ⟨by first | rfl | (simp [errW_none, errW_some] <;> rfl) | (simp [*, errW_none, errW_some] <;> rfl), by repeat (first | (with_reducible first | exact HB.out | apply dA | apply dB | apply dC) | exact HB.out)⟩
       · rw [if_neg c144] at H
         have c144b0 : (t413 == 0) = false := beq_eq_false_iff_ne.mpr c144; have c144b1 : (t413 != 0) = true := bne_iff_ne.mpr c144
         obtain rfl := Option.some.inj H
         go_enter Try.func12, Try.ntmps12
         go_wp2_with (first | ((with_reducible refine gate_callee (f := 26) rfl ?_); refine goesL_ (some 22) rfl rfl Try.func26 (by kernel_rfl) rfl #[.int .i64 a0, .int .i64 a1] rfl (by (try simp only [List.map_toArray, List.map_cons, List.map_nil]); first | done | rfl | (simp only [List.length_drop, List.length_take]; rfl)) ?_; (with_reducible refine (micro_Scale.calls k a0 a1 t410 t411 _ A3.out).mono ?_); rintro e w156 ⟨rfl, hb⟩; refine ⟨_, rfl, ?_⟩; have n0_ := am (below_step bz hb); clear HB; have HB := n0_; clear n0_; (try clear hb); (try clear hb2); (try clear hk); (try clear hi)) | ((with_reducible refine gate_callee (f := 26) rfl ?_); refine goesL_ (some 28) rfl rfl Try.func26 (by kernel_rfl) rfl #[.int .i64 7, .int .i64 1000000] rfl (by (try simp only [List.map_toArray, List.map_cons, List.map_nil]); first | done | rfl | (simp only [List.length_drop, List.length_take]; rfl)) ?_; (with_reducible refine (micro_Scale.calls k 7 1000000 t412 t413 _ A141.out).mono ?_); rintro e w157 ⟨rfl, hb⟩; refine ⟨_, rfl, ?_⟩; have n0_ := am (below_step bz hb); clear HB; have HB := n0_; clear n0_; (try clear hb); (try clear hb2); (try clear hk); (try clear hi)))
         go_ret
         exact ⟨by first | rfl | (simp [errW_none, errW_some] <;> rfl) | (simp [*, errW_none, errW_some] <;> rfl), by repeat (first | (with_reducible first | exact HB.out | apply dA | apply dB | apply dC) | exact HB.out)⟩
     · rw [if_neg c143] at H
       have c143b0 : (t412 == 7) = false := beq_eq_false_iff_ne.mpr c143; have c143b1 : (t412 != 7) = true := bne_iff_ne.mpr c143
       obtain rfl := Option.some.inj H
       go_enter Try.func12, Try.ntmps12
       go_wp2_with (first | ((with_reducible refine gate_callee (f := 26) rfl ?_); refine goesL_ (some 22) rfl rfl Try.func26 (by kernel_rfl) rfl #[.int .i64 a0, .int .i64 a1] rfl (by (try simp only [List.map_toArray, List.map_cons, List.map_nil]); first | done | rfl | (simp only [List.length_drop, List.length_take]; rfl)) ?_; (with_reducible refine (micro_Scale.calls k a0 a1 t410 t411 _ A3.out).mono ?_); rintro e w158 ⟨rfl, hb⟩; refine ⟨_, rfl, ?_⟩; have n0_ := am (below_step bz hb); clear HB; have HB := n0_; clear n0_; (try clear hb); (try clear hb2); (try clear hk); (try clear hi)) | ((with_reducible refine gate_callee (f := 26) rfl ?_); refine goesL_ (some 28) rfl rfl Try.func26 (by kernel_rfl) rfl #[.int .i64 7, .int .i64 1000000] rfl (by (try simp only [List.map_toArray, List.map_cons, List.map_nil]); first | done | rfl | (simp only [List.length_drop, List.length_take]; rfl)) ?_; (with_reducible refine (micro_Scale.calls k 7 1000000 t412 t413 _ A141.out).mono ?_); rintro e w159 ⟨rfl, hb⟩; refine ⟨_, rfl, ?_⟩; have n0_ := am (below_step bz hb); clear HB; have HB := n0_; clear n0_; (try clear hb); (try clear hb2); (try clear hk); (try clear hi)))
       go_ret
       exact ⟨by first | rfl | (simp [errW_none, errW_some] <;> rfl) | (simp [*, errW_none, errW_some] <;> rfl), by repeat (first | (with_reducible first | exact HB.out | apply dA | apply dB | apply dC) | exact HB.out)⟩
   · rw [if_neg c142] at H
     have c142b0 : (t410 == 0) = false := beq_eq_false_iff_ne.mpr c142; have c142b1 : (t410 != 0) = true := bne_iff_ne.mpr c142
     obtain rfl := Option.some.inj H
     go_enter Try.func12, Try.ntmps12
     go_wp2_with (first | ((with_reducible refine gate_callee (f := 26) rfl ?_); refine goesL_ (some 22) rfl rfl Try.func26 (by kernel_rfl) rfl #[.int .i64 a0, .int .i64 a1] rfl (by (try simp only [List.map_toArray, List.map_cons, List.map_nil]); first | done | rfl | (simp only [List.length_drop, List.length_take]; rfl)) ?_; (with_reducible refine (micro_Scale.calls k a0 a1 t410 t411 _ A3.out).mono ?_); rintro e w160 ⟨rfl, hb⟩; refine ⟨_, rfl, ?_⟩; have n0_ := am (below_step bz hb); clear HB; have HB := n0_; clear n0_; (try clear hb); (try clear hb2); (try clear hk); (try clear hi)) | ((with_reducible refine gate_callee (f := 26) rfl ?_); refine goesL_ (some 28) rfl rfl Try.func26 (by kernel_rfl) rfl #[.int .i64 7, .int .i64 1000000] rfl (by (try simp only [List.map_toArray, List.map_cons, List.map_nil]); first | done | rfl | (simp only [List.length_drop, List.length_take]; rfl)) ?_; (with_reducible refine (micro_Scale.calls k 7 1000000 t412 t413 _ A141.out).mono ?_); rintro e w161 ⟨rfl, hb⟩; refine ⟨_, rfl, ?_⟩; have n0_ := am (below_step bz hb); clear HB; have HB := n0_; clear n0_; (try clear hb); (try clear hb2); (try clear hk); (try clear hi)))
     go_ret
     exact ⟨by first | rfl | (simp [errW_none, errW_some] <;> rfl) | (simp [*, errW_none, errW_some] <;> rfl), by repeat (first | (with_reducible first | exact HB.out | apply dA | apply dB | apply dC) | exact HB.out)⟩

/-- THE ONE PURE STATEMENT of tumblerlaw02_MicroSent: yours. -/
def tumblerlaw02_MicroSent.Pure : Prop := ∀ (a0 : Int) (a1 : Int), (Lit.int .i64 a0).wf = true → (Lit.int .i64 a1).wf = true → ∃ k, tumblerlaw02_MicroSent.f k a0 a1 = some true
theorem tumblerlaw02_MicroSent.walk (P : tumblerlaw02_MicroSent.Pure) (a0 : Int) (a1 : Int) (w : World) (w0 : (Lit.int .i64 a0).wf = true) (w1 : (Lit.int .i64 a1).wf = true) :
 Calls Try.prog 12 #[.int .i64 a0, .int .i64 a1] w fun e w' => e = .returned (.bool true) ∧ Below w.heap.size w w' := by
 obtain ⟨k, h⟩ := P a0 a1 w0 w1
 refine (tumblerlaw02_MicroSent.calls k a0 a1 true w h).mono ?_
 rintro e w' ⟨rfl, hd⟩
 exact ⟨rfl, hd⟩

end Go.Proofs.Ytifhebempfjcmaa.P
