-- Printed by this session's own pp.py (wip/tool) out of the translation.
import Derived.Test.YtcfhmbhlibhlnaaDoorPx0
import Derived.Test.YtcfhmbhlibhlnaaDoorPxf30
import Derived.Test.YtcfhmbhlibhlnaaDoorPxf29
import Derived.Test.YtcfhmbhlibhlnaaDoorPxf31
namespace Go.Proofs.YtcfhmbhlibhlnaaDoor.P
open Go.RowKit Go.Proofs.YtcfhmbhlibhlnaaDoorW.PrintWords Go.Proofs.YtcfhmbhlibhlnaaDoorW.PrintLast Go.Proofs.YtcfhmbhlibhlnaaDoorW.PrintMore Go.Proofs.YtcfhmbhlibhlnaaDoor.Mine
attribute [local go_sem] ext71 ext79 eqA61 eqA62
attribute [local go_sem] max2_int min2_int max_two min_two max_three min_three max_four min_four   -- for this text's walks alone
set_option linter.unusedVariables false
set_option linter.unusedSimpArgs false

/-! ### tumblerlaw01_WideOrders: function 5 -/
def tumblerlaw01_WideOrders.j0 : Nat → Int → Bool → Int → Int → Int → Int → Int → Int → Option (Bool)
 | 0, _, _, _, _, _, _, _, _ => none
 | k + 1, x7, x64, x272000, x272001, x273000, x273001, x274000, x274001 => if x64 = true then (some false) else ((wide_Add.f x272000 x272001 x274000 x274001).bind fun bt278 => ((wide_Add.f x273000 x273001 x274000 x274001).bind fun bt282 => (if bt278.2.2 = 0 then (if bt282.2.2 = 0 then ((wide_Cmp.f bt278.1 bt278.2.1 bt282.1 bt282.2.1).bind fun t286 => (if t286 = x7 then ((tumblerlaw01_alive.f k).bind fun t287 => (some t287)) else (some false))) else ((tumblerlaw01_alive.f k).bind fun t288 => (some t288))) else ((tumblerlaw01_alive.f k).bind fun t289 => (some t289)))))
def tumblerlaw01_WideOrders.f (k : Nat) (a0_0 : Int) (a0_1 : Int) (a1_0 : Int) (a1_1 : Int) (a2_0 : Int) (a2_1 : Int) : Option (Bool) := (wide_Cmp.f a0_0 a0_1 a1_0 a1_1).bind fun t274 => ((wide_Cmp.f a1_0 a1_1 a2_0 a2_1).bind fun t275 => ((wide_Cmp.f a0_0 a0_1 a2_0 a2_1).bind fun t276 => ((wide_Cmp.f a1_0 a1_1 a0_0 a0_1).bind fun t277 => (if t277 = (wrap64 (-t274)) then (if t274 ≤ 0 then (if t275 ≤ 0 then (if t276 > 0 then (tumblerlaw01_WideOrders.j0 k t274 true a0_0 a0_1 a1_0 a1_1 a2_0 a2_1) else (if t274 ≥ 0 then (if t275 ≥ 0 then (if t276 < 0 then (tumblerlaw01_WideOrders.j0 k t274 true a0_0 a0_1 a1_0 a1_1 a2_0 a2_1) else (if t274 < 0 then (tumblerlaw01_WideOrders.j0 k t274 (decide (t276 ≥ 0)) a0_0 a0_1 a1_0 a1_1 a2_0 a2_1) else (tumblerlaw01_WideOrders.j0 k t274 false a0_0 a0_1 a1_0 a1_1 a2_0 a2_1))) else (if t274 < 0 then (tumblerlaw01_WideOrders.j0 k t274 (decide (t276 ≥ 0)) a0_0 a0_1 a1_0 a1_1 a2_0 a2_1) else (tumblerlaw01_WideOrders.j0 k t274 false a0_0 a0_1 a1_0 a1_1 a2_0 a2_1))) else (if t274 < 0 then (tumblerlaw01_WideOrders.j0 k t274 (decide (t276 ≥ 0)) a0_0 a0_1 a1_0 a1_1 a2_0 a2_1) else (tumblerlaw01_WideOrders.j0 k t274 false a0_0 a0_1 a1_0 a1_1 a2_0 a2_1)))) else (if t274 ≥ 0 then (if t275 ≥ 0 then (if t276 < 0 then (tumblerlaw01_WideOrders.j0 k t274 true a0_0 a0_1 a1_0 a1_1 a2_0 a2_1) else (if t274 < 0 then (tumblerlaw01_WideOrders.j0 k t274 false a0_0 a0_1 a1_0 a1_1 a2_0 a2_1) else (tumblerlaw01_WideOrders.j0 k t274 false a0_0 a0_1 a1_0 a1_1 a2_0 a2_1))) else (if t274 < 0 then (tumblerlaw01_WideOrders.j0 k t274 false a0_0 a0_1 a1_0 a1_1 a2_0 a2_1) else (tumblerlaw01_WideOrders.j0 k t274 false a0_0 a0_1 a1_0 a1_1 a2_0 a2_1))) else (if t274 < 0 then (tumblerlaw01_WideOrders.j0 k t274 false a0_0 a0_1 a1_0 a1_1 a2_0 a2_1) else (tumblerlaw01_WideOrders.j0 k t274 false a0_0 a0_1 a1_0 a1_1 a2_0 a2_1)))) else (if t274 ≥ 0 then (if t275 ≥ 0 then (if t276 < 0 then (tumblerlaw01_WideOrders.j0 k t274 true a0_0 a0_1 a1_0 a1_1 a2_0 a2_1) else (if t274 < 0 then (if t275 ≤ 0 then (tumblerlaw01_WideOrders.j0 k t274 (decide (t276 ≥ 0)) a0_0 a0_1 a1_0 a1_1 a2_0 a2_1) else (tumblerlaw01_WideOrders.j0 k t274 false a0_0 a0_1 a1_0 a1_1 a2_0 a2_1)) else (tumblerlaw01_WideOrders.j0 k t274 false a0_0 a0_1 a1_0 a1_1 a2_0 a2_1))) else (if t274 < 0 then (if t275 ≤ 0 then (tumblerlaw01_WideOrders.j0 k t274 (decide (t276 ≥ 0)) a0_0 a0_1 a1_0 a1_1 a2_0 a2_1) else (tumblerlaw01_WideOrders.j0 k t274 false a0_0 a0_1 a1_0 a1_1 a2_0 a2_1)) else (tumblerlaw01_WideOrders.j0 k t274 false a0_0 a0_1 a1_0 a1_1 a2_0 a2_1))) else (if t274 < 0 then (if t275 ≤ 0 then (tumblerlaw01_WideOrders.j0 k t274 (decide (t276 ≥ 0)) a0_0 a0_1 a1_0 a1_1 a2_0 a2_1) else (tumblerlaw01_WideOrders.j0 k t274 false a0_0 a0_1 a1_0 a1_1 a2_0 a2_1)) else (tumblerlaw01_WideOrders.j0 k t274 false a0_0 a0_1 a1_0 a1_1 a2_0 a2_1)))) else (tumblerlaw01_WideOrders.j0 k t274 true a0_0 a0_1 a1_0 a1_1 a2_0 a2_1)))))
theorem tumblerlaw01_WideOrders.mono_l : ∀ k, (∀ y0 y1 y2 y3 y4 y5 y6 y7, LeO (tumblerlaw01_WideOrders.j0 k y0 y1 y2 y3 y4 y5 y6 y7) (tumblerlaw01_WideOrders.j0 (k + 1) y0 y1 y2 y3 y4 y5 y6 y7))
 | 0 => fun _ _ _ _ _ _ _ _ r h => by simp [tumblerlaw01_WideOrders.j0] at h
 | k + 1 => by
  have ih0 := tumblerlaw01_WideOrders.mono_l k
  · intro y0 y1 y2 y3 y4 y5 y6 y7
    unfold tumblerlaw01_WideOrders.j0
    repeat' first
    | (with_reducible exact ih0 _ _ _ _ _ _ _ _)
    | (with_reducible exact tumblerlaw01_alive.mono _)
    | (with_reducible exact LeO.refl _)
    | (with_reducible exact LeO.none _)
    | (with_reducible refine LeO.ite ?_ ?_)
    | (with_reducible refine LeO.bind ?_ (fun _ => ?_))
    | exact ih0 _ _ _ _ _ _ _ _
    | exact tumblerlaw01_alive.mono _
    | exact LeO.none _
    | refine LeO.ite ?_ ?_
    | refine LeO.bind ?_ (fun _ => ?_)
theorem tumblerlaw01_WideOrders.mono : ∀ a0 a1 a2 a3 a4 a5 k, LeO (tumblerlaw01_WideOrders.f k a0 a1 a2 a3 a4 a5) (tumblerlaw01_WideOrders.f (k + 1) a0 a1 a2 a3 a4 a5) := by
 intro a0 a1 a2 a3 a4 a5 k; have ih0 := tumblerlaw01_WideOrders.mono_l k
 unfold tumblerlaw01_WideOrders.f
 repeat' first
  | (with_reducible exact ih0 _ _ _ _ _ _ _ _)
  | (with_reducible exact tumblerlaw01_alive.mono _)
  | (with_reducible exact LeO.refl _)
  | (with_reducible exact LeO.none _)
  | (with_reducible refine LeO.ite ?_ ?_)
  | (with_reducible refine LeO.bind ?_ (fun _ => ?_))
  | exact ih0 _ _ _ _ _ _ _ _
  | exact tumblerlaw01_alive.mono _
  | exact LeO.none _
  | refine LeO.ite ?_ ?_
  | refine LeO.bind ?_ (fun _ => ?_)
def tumblerlaw01_WideOrders.T1 : Bool × List (List Nat × List Nat) := (true, [([], []), ([], []), ([0, 1], [0, 1]), ([], []), ([], []), ([3, 4, 2], [3, 4]), ([], []), ([], []), ([6, 7, 5], [6, 7]), ([2, 8, 0, 1, 2], [2]), ([5, 9, 0, 1, 2, 3, 4, 5, 9], [5]), ([8, 10, 0, 1, 2, 3, 4, 5, 6, 7, 8, 9, 10], [8])])
def tumblerlaw01_WideOrders.B1 : List Nat := [0, 0, 3, 0, 0, 31, 0, 0, 255, 511, 1023, 2047]
theorem tumblerlaw01_WideOrders.tab1 : rtab .any (opsOf Tryd.f5 1) = tumblerlaw01_WideOrders.T1 := by kernel_rfl
theorem tumblerlaw01_WideOrders.bits1 : waitsOk tumblerlaw01_WideOrders.T1.2 tumblerlaw01_WideOrders.B1 = true := by kernel_rfl
set_option maxHeartbeats 8000000 in
set_option maxRecDepth 100000 in
theorem tumblerlaw01_WideOrders.calls (k : Nat) (a0_0 : Int) (a0_1 : Int) (a1_0 : Int) (a1_1 : Int) (a2_0 : Int) (a2_1 : Int) (r : Bool) (w : World) (hT : Aside0 (WF w)) (hr_ : Aside0 (r = true)) (h : tumblerlaw01_WideOrders.f k a0_0 a0_1 a1_0 a1_1 a2_0 a2_1 = some r) :
 Calls Tryd.prog 5 #[.agg #[.int .i64 a0_0, .int .u64 a0_1], .agg #[.int .i64 a1_0, .int .u64 a1_1], .agg #[.int .i64 a2_0, .int .u64 a2_1]] w fun e w' => e = .returned (.bool r) ∧ Below w.heap.size w w' := by
 have hu24 := Tryd.underlying24; have HB := am (Below.refl w.heap.size w); have H : ((wide_Cmp.f a0_0 a0_1 a1_0 a1_1).bind fun t274 => ((wide_Cmp.f a1_0 a1_1 a2_0 a2_1).bind fun t275 => ((wide_Cmp.f a0_0 a0_1 a2_0 a2_1).bind fun t276 => ((wide_Cmp.f a1_0 a1_1 a0_0 a0_1).bind fun t277 => (if t277 = (wrap64 (-t274)) then (if t274 ≤ 0 then (if t275 ≤ 0 then (if t276 > 0 then (tumblerlaw01_WideOrders.j0 k t274 true a0_0 a0_1 a1_0 a1_1 a2_0 a2_1) else (if t274 ≥ 0 then (if t275 ≥ 0 then (if t276 < 0 then (tumblerlaw01_WideOrders.j0 k t274 true a0_0 a0_1 a1_0 a1_1 a2_0 a2_1) else (if t274 < 0 then (tumblerlaw01_WideOrders.j0 k t274 (decide (t276 ≥ 0)) a0_0 a0_1 a1_0 a1_1 a2_0 a2_1) else (tumblerlaw01_WideOrders.j0 k t274 false a0_0 a0_1 a1_0 a1_1 a2_0 a2_1))) else (if t274 < 0 then (tumblerlaw01_WideOrders.j0 k t274 (decide (t276 ≥ 0)) a0_0 a0_1 a1_0 a1_1 a2_0 a2_1) else (tumblerlaw01_WideOrders.j0 k t274 false a0_0 a0_1 a1_0 a1_1 a2_0 a2_1))) else (if t274 < 0 then (tumblerlaw01_WideOrders.j0 k t274 (decide (t276 ≥ 0)) a0_0 a0_1 a1_0 a1_1 a2_0 a2_1) else (tumblerlaw01_WideOrders.j0 k t274 false a0_0 a0_1 a1_0 a1_1 a2_0 a2_1)))) else (if t274 ≥ 0 then (if t275 ≥ 0 then (if t276 < 0 then (tumblerlaw01_WideOrders.j0 k t274 true a0_0 a0_1 a1_0 a1_1 a2_0 a2_1) else (if t274 < 0 then (tumblerlaw01_WideOrders.j0 k t274 false a0_0 a0_1 a1_0 a1_1 a2_0 a2_1) else (tumblerlaw01_WideOrders.j0 k t274 false a0_0 a0_1 a1_0 a1_1 a2_0 a2_1))) else (if t274 < 0 then (tumblerlaw01_WideOrders.j0 k t274 false a0_0 a0_1 a1_0 a1_1 a2_0 a2_1) else (tumblerlaw01_WideOrders.j0 k t274 false a0_0 a0_1 a1_0 a1_1 a2_0 a2_1))) else (if t274 < 0 then (tumblerlaw01_WideOrders.j0 k t274 false a0_0 a0_1 a1_0 a1_1 a2_0 a2_1) else (tumblerlaw01_WideOrders.j0 k t274 false a0_0 a0_1 a1_0 a1_1 a2_0 a2_1)))) else (if t274 ≥ 0 then (if t275 ≥ 0 then (if t276 < 0 then (tumblerlaw01_WideOrders.j0 k t274 true a0_0 a0_1 a1_0 a1_1 a2_0 a2_1) else (if t274 < 0 then (if t275 ≤ 0 then (tumblerlaw01_WideOrders.j0 k t274 (decide (t276 ≥ 0)) a0_0 a0_1 a1_0 a1_1 a2_0 a2_1) else (tumblerlaw01_WideOrders.j0 k t274 false a0_0 a0_1 a1_0 a1_1 a2_0 a2_1)) else (tumblerlaw01_WideOrders.j0 k t274 false a0_0 a0_1 a1_0 a1_1 a2_0 a2_1))) else (if t274 < 0 then (if t275 ≤ 0 then (tumblerlaw01_WideOrders.j0 k t274 (decide (t276 ≥ 0)) a0_0 a0_1 a1_0 a1_1 a2_0 a2_1) else (tumblerlaw01_WideOrders.j0 k t274 false a0_0 a0_1 a1_0 a1_1 a2_0 a2_1)) else (tumblerlaw01_WideOrders.j0 k t274 false a0_0 a0_1 a1_0 a1_1 a2_0 a2_1))) else (if t274 < 0 then (if t275 ≤ 0 then (tumblerlaw01_WideOrders.j0 k t274 (decide (t276 ≥ 0)) a0_0 a0_1 a1_0 a1_1 a2_0 a2_1) else (tumblerlaw01_WideOrders.j0 k t274 false a0_0 a0_1 a1_0 a1_1 a2_0 a2_1)) else (tumblerlaw01_WideOrders.j0 k t274 false a0_0 a0_1 a1_0 a1_1 a2_0 a2_1)))) else (tumblerlaw01_WideOrders.j0 k t274 true a0_0 a0_1 a1_0 a1_1 a2_0 a2_1)))))) = some r := h; clear h
 replace H := Option.bind_eq_some_iff.mp H
 obtain ⟨t274, A40, H⟩ := H
 replace H : ((wide_Cmp.f a1_0 a1_1 a2_0 a2_1).bind fun t275 => ((wide_Cmp.f a0_0 a0_1 a2_0 a2_1).bind fun t276 => ((wide_Cmp.f a1_0 a1_1 a0_0 a0_1).bind fun t277 => (if t277 = (wrap64 (-t274)) then (if t274 ≤ 0 then (if t275 ≤ 0 then (if t276 > 0 then (tumblerlaw01_WideOrders.j0 k t274 true a0_0 a0_1 a1_0 a1_1 a2_0 a2_1) else (if t274 ≥ 0 then (if t275 ≥ 0 then (if t276 < 0 then (tumblerlaw01_WideOrders.j0 k t274 true a0_0 a0_1 a1_0 a1_1 a2_0 a2_1) else (if t274 < 0 then (tumblerlaw01_WideOrders.j0 k t274 (decide (t276 ≥ 0)) a0_0 a0_1 a1_0 a1_1 a2_0 a2_1) else (tumblerlaw01_WideOrders.j0 k t274 false a0_0 a0_1 a1_0 a1_1 a2_0 a2_1))) else (if t274 < 0 then (tumblerlaw01_WideOrders.j0 k t274 (decide (t276 ≥ 0)) a0_0 a0_1 a1_0 a1_1 a2_0 a2_1) else (tumblerlaw01_WideOrders.j0 k t274 false a0_0 a0_1 a1_0 a1_1 a2_0 a2_1))) else (if t274 < 0 then (tumblerlaw01_WideOrders.j0 k t274 (decide (t276 ≥ 0)) a0_0 a0_1 a1_0 a1_1 a2_0 a2_1) else (tumblerlaw01_WideOrders.j0 k t274 false a0_0 a0_1 a1_0 a1_1 a2_0 a2_1)))) else (if t274 ≥ 0 then (if t275 ≥ 0 then (if t276 < 0 then (tumblerlaw01_WideOrders.j0 k t274 true a0_0 a0_1 a1_0 a1_1 a2_0 a2_1) else (if t274 < 0 then (tumblerlaw01_WideOrders.j0 k t274 false a0_0 a0_1 a1_0 a1_1 a2_0 a2_1) else (tumblerlaw01_WideOrders.j0 k t274 false a0_0 a0_1 a1_0 a1_1 a2_0 a2_1))) else (if t274 < 0 then (tumblerlaw01_WideOrders.j0 k t274 false a0_0 a0_1 a1_0 a1_1 a2_0 a2_1) else (tumblerlaw01_WideOrders.j0 k t274 false a0_0 a0_1 a1_0 a1_1 a2_0 a2_1))) else (if t274 < 0 then (tumblerlaw01_WideOrders.j0 k t274 false a0_0 a0_1 a1_0 a1_1 a2_0 a2_1) else (tumblerlaw01_WideOrders.j0 k t274 false a0_0 a0_1 a1_0 a1_1 a2_0 a2_1)))) else (if t274 ≥ 0 then (if t275 ≥ 0 then (if t276 < 0 then (tumblerlaw01_WideOrders.j0 k t274 true a0_0 a0_1 a1_0 a1_1 a2_0 a2_1) else (if t274 < 0 then (if t275 ≤ 0 then (tumblerlaw01_WideOrders.j0 k t274 (decide (t276 ≥ 0)) a0_0 a0_1 a1_0 a1_1 a2_0 a2_1) else (tumblerlaw01_WideOrders.j0 k t274 false a0_0 a0_1 a1_0 a1_1 a2_0 a2_1)) else (tumblerlaw01_WideOrders.j0 k t274 false a0_0 a0_1 a1_0 a1_1 a2_0 a2_1))) else (if t274 < 0 then (if t275 ≤ 0 then (tumblerlaw01_WideOrders.j0 k t274 (decide (t276 ≥ 0)) a0_0 a0_1 a1_0 a1_1 a2_0 a2_1) else (tumblerlaw01_WideOrders.j0 k t274 false a0_0 a0_1 a1_0 a1_1 a2_0 a2_1)) else (tumblerlaw01_WideOrders.j0 k t274 false a0_0 a0_1 a1_0 a1_1 a2_0 a2_1))) else (if t274 < 0 then (if t275 ≤ 0 then (tumblerlaw01_WideOrders.j0 k t274 (decide (t276 ≥ 0)) a0_0 a0_1 a1_0 a1_1 a2_0 a2_1) else (tumblerlaw01_WideOrders.j0 k t274 false a0_0 a0_1 a1_0 a1_1 a2_0 a2_1)) else (tumblerlaw01_WideOrders.j0 k t274 false a0_0 a0_1 a1_0 a1_1 a2_0 a2_1)))) else (tumblerlaw01_WideOrders.j0 k t274 true a0_0 a0_1 a1_0 a1_1 a2_0 a2_1))))) = some r := H
 have A4 := Aside0.mk A40; clear A40
 replace H := Option.bind_eq_some_iff.mp H
 obtain ⟨t275, A50, H⟩ := H
 replace H : ((wide_Cmp.f a0_0 a0_1 a2_0 a2_1).bind fun t276 => ((wide_Cmp.f a1_0 a1_1 a0_0 a0_1).bind fun t277 => (if t277 = (wrap64 (-t274)) then (if t274 ≤ 0 then (if t275 ≤ 0 then (if t276 > 0 then (tumblerlaw01_WideOrders.j0 k t274 true a0_0 a0_1 a1_0 a1_1 a2_0 a2_1) else (if t274 ≥ 0 then (if t275 ≥ 0 then (if t276 < 0 then (tumblerlaw01_WideOrders.j0 k t274 true a0_0 a0_1 a1_0 a1_1 a2_0 a2_1) else (if t274 < 0 then (tumblerlaw01_WideOrders.j0 k t274 (decide (t276 ≥ 0)) a0_0 a0_1 a1_0 a1_1 a2_0 a2_1) else (tumblerlaw01_WideOrders.j0 k t274 false a0_0 a0_1 a1_0 a1_1 a2_0 a2_1))) else (if t274 < 0 then (tumblerlaw01_WideOrders.j0 k t274 (decide (t276 ≥ 0)) a0_0 a0_1 a1_0 a1_1 a2_0 a2_1) else (tumblerlaw01_WideOrders.j0 k t274 false a0_0 a0_1 a1_0 a1_1 a2_0 a2_1))) else (if t274 < 0 then (tumblerlaw01_WideOrders.j0 k t274 (decide (t276 ≥ 0)) a0_0 a0_1 a1_0 a1_1 a2_0 a2_1) else (tumblerlaw01_WideOrders.j0 k t274 false a0_0 a0_1 a1_0 a1_1 a2_0 a2_1)))) else (if t274 ≥ 0 then (if t275 ≥ 0 then (if t276 < 0 then (tumblerlaw01_WideOrders.j0 k t274 true a0_0 a0_1 a1_0 a1_1 a2_0 a2_1) else (if t274 < 0 then (tumblerlaw01_WideOrders.j0 k t274 false a0_0 a0_1 a1_0 a1_1 a2_0 a2_1) else (tumblerlaw01_WideOrders.j0 k t274 false a0_0 a0_1 a1_0 a1_1 a2_0 a2_1))) else (if t274 < 0 then (tumblerlaw01_WideOrders.j0 k t274 false a0_0 a0_1 a1_0 a1_1 a2_0 a2_1) else (tumblerlaw01_WideOrders.j0 k t274 false a0_0 a0_1 a1_0 a1_1 a2_0 a2_1))) else (if t274 < 0 then (tumblerlaw01_WideOrders.j0 k t274 false a0_0 a0_1 a1_0 a1_1 a2_0 a2_1) else (tumblerlaw01_WideOrders.j0 k t274 false a0_0 a0_1 a1_0 a1_1 a2_0 a2_1)))) else (if t274 ≥ 0 then (if t275 ≥ 0 then (if t276 < 0 then (tumblerlaw01_WideOrders.j0 k t274 true a0_0 a0_1 a1_0 a1_1 a2_0 a2_1) else (if t274 < 0 then (if t275 ≤ 0 then (tumblerlaw01_WideOrders.j0 k t274 (decide (t276 ≥ 0)) a0_0 a0_1 a1_0 a1_1 a2_0 a2_1) else (tumblerlaw01_WideOrders.j0 k t274 false a0_0 a0_1 a1_0 a1_1 a2_0 a2_1)) else (tumblerlaw01_WideOrders.j0 k t274 false a0_0 a0_1 a1_0 a1_1 a2_0 a2_1))) else (if t274 < 0 then (if t275 ≤ 0 then (tumblerlaw01_WideOrders.j0 k t274 (decide (t276 ≥ 0)) a0_0 a0_1 a1_0 a1_1 a2_0 a2_1) else (tumblerlaw01_WideOrders.j0 k t274 false a0_0 a0_1 a1_0 a1_1 a2_0 a2_1)) else (tumblerlaw01_WideOrders.j0 k t274 false a0_0 a0_1 a1_0 a1_1 a2_0 a2_1))) else (if t274 < 0 then (if t275 ≤ 0 then (tumblerlaw01_WideOrders.j0 k t274 (decide (t276 ≥ 0)) a0_0 a0_1 a1_0 a1_1 a2_0 a2_1) else (tumblerlaw01_WideOrders.j0 k t274 false a0_0 a0_1 a1_0 a1_1 a2_0 a2_1)) else (tumblerlaw01_WideOrders.j0 k t274 false a0_0 a0_1 a1_0 a1_1 a2_0 a2_1)))) else (tumblerlaw01_WideOrders.j0 k t274 true a0_0 a0_1 a1_0 a1_1 a2_0 a2_1)))) = some r := H
 have A5 := Aside0.mk A50; clear A50
 replace H := Option.bind_eq_some_iff.mp H
 obtain ⟨t276, A60, H⟩ := H
 replace H : ((wide_Cmp.f a1_0 a1_1 a0_0 a0_1).bind fun t277 => (if t277 = (wrap64 (-t274)) then (if t274 ≤ 0 then (if t275 ≤ 0 then (if t276 > 0 then (tumblerlaw01_WideOrders.j0 k t274 true a0_0 a0_1 a1_0 a1_1 a2_0 a2_1) else (if t274 ≥ 0 then (if t275 ≥ 0 then (if t276 < 0 then (tumblerlaw01_WideOrders.j0 k t274 true a0_0 a0_1 a1_0 a1_1 a2_0 a2_1) else (if t274 < 0 then (tumblerlaw01_WideOrders.j0 k t274 (decide (t276 ≥ 0)) a0_0 a0_1 a1_0 a1_1 a2_0 a2_1) else (tumblerlaw01_WideOrders.j0 k t274 false a0_0 a0_1 a1_0 a1_1 a2_0 a2_1))) else (if t274 < 0 then (tumblerlaw01_WideOrders.j0 k t274 (decide (t276 ≥ 0)) a0_0 a0_1 a1_0 a1_1 a2_0 a2_1) else (tumblerlaw01_WideOrders.j0 k t274 false a0_0 a0_1 a1_0 a1_1 a2_0 a2_1))) else (if t274 < 0 then (tumblerlaw01_WideOrders.j0 k t274 (decide (t276 ≥ 0)) a0_0 a0_1 a1_0 a1_1 a2_0 a2_1) else (tumblerlaw01_WideOrders.j0 k t274 false a0_0 a0_1 a1_0 a1_1 a2_0 a2_1)))) else (if t274 ≥ 0 then (if t275 ≥ 0 then (if t276 < 0 then (tumblerlaw01_WideOrders.j0 k t274 true a0_0 a0_1 a1_0 a1_1 a2_0 a2_1) else (if t274 < 0 then (tumblerlaw01_WideOrders.j0 k t274 false a0_0 a0_1 a1_0 a1_1 a2_0 a2_1) else (tumblerlaw01_WideOrders.j0 k t274 false a0_0 a0_1 a1_0 a1_1 a2_0 a2_1))) else (if t274 < 0 then (tumblerlaw01_WideOrders.j0 k t274 false a0_0 a0_1 a1_0 a1_1 a2_0 a2_1) else (tumblerlaw01_WideOrders.j0 k t274 false a0_0 a0_1 a1_0 a1_1 a2_0 a2_1))) else (if t274 < 0 then (tumblerlaw01_WideOrders.j0 k t274 false a0_0 a0_1 a1_0 a1_1 a2_0 a2_1) else (tumblerlaw01_WideOrders.j0 k t274 false a0_0 a0_1 a1_0 a1_1 a2_0 a2_1)))) else (if t274 ≥ 0 then (if t275 ≥ 0 then (if t276 < 0 then (tumblerlaw01_WideOrders.j0 k t274 true a0_0 a0_1 a1_0 a1_1 a2_0 a2_1) else (if t274 < 0 then (if t275 ≤ 0 then (tumblerlaw01_WideOrders.j0 k t274 (decide (t276 ≥ 0)) a0_0 a0_1 a1_0 a1_1 a2_0 a2_1) else (tumblerlaw01_WideOrders.j0 k t274 false a0_0 a0_1 a1_0 a1_1 a2_0 a2_1)) else (tumblerlaw01_WideOrders.j0 k t274 false a0_0 a0_1 a1_0 a1_1 a2_0 a2_1))) else (if t274 < 0 then (if t275 ≤ 0 then (tumblerlaw01_WideOrders.j0 k t274 (decide (t276 ≥ 0)) a0_0 a0_1 a1_0 a1_1 a2_0 a2_1) else (tumblerlaw01_WideOrders.j0 k t274 false a0_0 a0_1 a1_0 a1_1 a2_0 a2_1)) else (tumblerlaw01_WideOrders.j0 k t274 false a0_0 a0_1 a1_0 a1_1 a2_0 a2_1))) else (if t274 < 0 then (if t275 ≤ 0 then (tumblerlaw01_WideOrders.j0 k t274 (decide (t276 ≥ 0)) a0_0 a0_1 a1_0 a1_1 a2_0 a2_1) else (tumblerlaw01_WideOrders.j0 k t274 false a0_0 a0_1 a1_0 a1_1 a2_0 a2_1)) else (tumblerlaw01_WideOrders.j0 k t274 false a0_0 a0_1 a1_0 a1_1 a2_0 a2_1)))) else (tumblerlaw01_WideOrders.j0 k t274 true a0_0 a0_1 a1_0 a1_1 a2_0 a2_1))) = some r := H
 have A6 := Aside0.mk A60; clear A60; have HC7 := Aside0.mk H; clear H
 go_enter Tryd.func5, Tryd.ntmps5
 try go_wp2_with (first | ((with_reducible refine gate_dst (N := 3) rfl ?_); refine box_event ?hg (N := 3) ?hd (cs := #[.int .i64 a0_0, .int .u64 a0_1]) (t := 24) ?hr ?_; (case hd => rfl); (case hg => rfl); (case hr => first | (go_simp; done) | (go_simp; rfl)); intro gb271 hg w8 hbox hb; have n0_ := am (below_step bz hb); have n1_ := am (hbox); have n2_ := am ((by rw [hg]; exact (below_size bz) : w.heap.size ≤ gb271)); have n3_ := am ((by rw [hg]; exact (below_size bz) : w.heap.size ≤ gb271)); clear HB; have HB := n0_; have BK271 := n1_; have GW271 := n2_; have GE271 := n3_; clear n0_ n1_ n2_ n3_; clear hb hbox hg) | ((with_reducible refine gate_dst (N := 4) rfl ?_); refine box_event ?hg (N := 4) ?hd (cs := #[.int .i64 a1_0, .int .u64 a1_1]) (t := 24) ?hr ?_; (case hd => rfl); (case hg => rfl); (case hr => first | (go_simp; done) | (go_simp; rfl)); intro gb272 hg w9 hbox hb; have n0_ := am (bb BK271 hb); have n1_ := am (below_step bz hb); have n2_ := am (hbox); have n3_ := am ((by rw [hg]; exact (below_size bz) : w.heap.size ≤ gb272)); have n4_ := am ((by rw [hg]; exact (below_size bz) : w.heap.size ≤ gb272)); have n5_ := am ((by rw [hg]; exact Nat.ne_of_lt (bl BK271) : gb271 ≠ gb272)); have n6_ := am ((by rw [hg]; exact Nat.ne_of_gt (bl BK271) : gb272 ≠ gb271)); clear BK271; clear HB; have BK271 := n0_; have HB := n1_; have BK272 := n2_; have GW272 := n3_; have GE272 := n4_; have NB271_272 := n5_; have NB272_271 := n6_; clear n0_ n1_ n2_ n3_ n4_ n5_ n6_; clear hb hbox hg) | ((with_reducible refine gate_dst (N := 5) rfl ?_); refine box_event ?hg (N := 5) ?hd (cs := #[.int .i64 a2_0, .int .u64 a2_1]) (t := 24) ?hr ?_; (case hd => rfl); (case hg => rfl); (case hr => first | (go_simp; done) | (go_simp; rfl)); intro gb273 hg w10 hbox hb; have n0_ := am (bb BK271 hb); have n1_ := am (bb BK272 hb); have n2_ := am (below_step bz hb); have n3_ := am (hbox); have n4_ := am ((by rw [hg]; exact (below_size bz) : w.heap.size ≤ gb273)); have n5_ := am ((by rw [hg]; exact (below_size bz) : w.heap.size ≤ gb273)); have n6_ := am ((by rw [hg]; exact Nat.ne_of_lt (bl BK271) : gb271 ≠ gb273)); have n7_ := am ((by rw [hg]; exact Nat.ne_of_gt (bl BK271) : gb273 ≠ gb271)); have n8_ := am ((by rw [hg]; exact Nat.ne_of_lt (bl BK272) : gb272 ≠ gb273)); have n9_ := am ((by rw [hg]; exact Nat.ne_of_gt (bl BK272) : gb273 ≠ gb272)); clear BK271; clear BK272; clear HB; have BK271 := n0_; have BK272 := n1_; have HB := n2_; have BK273 := n3_; have GW273 := n4_; have GE273 := n5_; have NB271_273 := n6_; have NB273_271 := n7_; have NB272_273 := n8_; have NB273_272 := n9_; clear n0_ n1_ n2_ n3_ n4_ n5_ n6_ n7_ n8_ n9_; clear hb hbox hg))
 have n0_ := am (blk_drew BK271.out); have n1_ := am (blk_drew BK272.out); have n2_ := am (blk_drew BK273.out); have n3_ := am (below_drew1 HB.out); clear BK271 BK272 BK273 HB; have BK271 := n0_; have BK272 := n1_; have BK273 := n2_; have HB := n3_; clear n0_ n1_ n2_ n3_
 refine start_ (n := 12) (S := fun w' => w'.cell? ⟨gb271, 0, none⟩ = some (.int .i64 a0_0) ∧ w'.cell? ⟨gb271, 1, none⟩ = some (.int .u64 a0_1) ∧ w'.cell? ⟨gb272, 0, none⟩ = some (.int .i64 a1_0) ∧ w'.cell? ⟨gb272, 1, none⟩ = some (.int .u64 a1_1) ∧ w'.cell? ⟨gb273, 0, none⟩ = some (.int .i64 a2_0) ∧ w'.cell? ⟨gb273, 1, none⟩ = some (.int .u64 a2_1)) (ds := []) #[false, false, false, false, false, false, false, false, false, false, false, false] (by kernel_rfl) rfl rfl ⟨(blk_cell BK271.out 0).trans rfl, (blk_cell BK271.out 1).trans rfl, (blk_cell BK272.out 0).trans rfl, (blk_cell BK272.out 1).trans rfl, (blk_cell BK273.out 0).trans rfl, (blk_cell BK273.out 1).trans rfl⟩ (fun hHeld => ?_); refine with_tabW tumblerlaw01_WideOrders.tab1 tumblerlaw01_WideOrders.bits1 (fun HT_ HW_ => ?_)
 generalize w10.drew = w11 at BK271 BK272 BK273 HB hHeld ⊢
 refine take_ (i := 0) (N := some 14) (v := ?_) (a' := ?_) #[true, false, false, false, false, false, false, false, false, false, false, false] rfl rfl (take_ofW HT_.out HW_.out (by kernel_rfl)) (fun _ _ _ h => h) (Or.inl ⟨by rfl, ?_⟩) hHeld ?_ ?_
 rotate_left
 · rintro w' ⟨s0, s1, s2, s3, s4, s5⟩
   go_simp
   with_reducible rfl
 rotate_left
 · simp only [Act.put, List.setIfInBounds_toArray, List.set_cons_zero, List.set_cons_succ, i64_w, i32_w]
   rfl
 refine take_ (i := 1) (N := some 15) (v := ?_) (a' := ?_) #[true, true, false, false, false, false, false, false, false, false, false, false] rfl rfl (take_ofW HT_.out HW_.out (by kernel_rfl)) (fun _ _ _ h => h) (Or.inl ⟨by rfl, ?_⟩) hHeld ?_ ?_
 rotate_left
 · rintro w' ⟨s0, s1, s2, s3, s4, s5⟩
   go_simp
   with_reducible rfl
 rotate_left
 · simp only [Act.put, List.setIfInBounds_toArray, List.set_cons_zero, List.set_cons_succ, i64_w, i32_w]
   rfl
 refine take_ (i := 3) (N := some 17) (v := ?_) (a' := ?_) #[true, true, false, true, false, false, false, false, false, false, false, false] rfl rfl (take_ofW HT_.out HW_.out (by kernel_rfl)) (fun _ _ _ h => h) (Or.inl ⟨by rfl, ?_⟩) hHeld ?_ ?_
 rotate_left
 · rintro w' ⟨s0, s1, s2, s3, s4, s5⟩
   go_simp
   with_reducible rfl
 rotate_left
 · simp only [Act.put, List.setIfInBounds_toArray, List.set_cons_zero, List.set_cons_succ, i64_w, i32_w]
   rfl
 refine take_ (i := 4) (N := some 18) (v := ?_) (a' := ?_) #[true, true, false, true, true, false, false, false, false, false, false, false] rfl rfl (take_ofW HT_.out HW_.out (by kernel_rfl)) (fun _ _ _ h => h) (Or.inl ⟨by rfl, ?_⟩) hHeld ?_ ?_
 rotate_left
 · rintro w' ⟨s0, s1, s2, s3, s4, s5⟩
   go_simp
   with_reducible rfl
 rotate_left
 · simp only [Act.put, List.setIfInBounds_toArray, List.set_cons_zero, List.set_cons_succ, i64_w, i32_w]
   rfl
 refine take_ (i := 6) (N := some 20) (v := ?_) (a' := ?_) #[true, true, false, true, true, false, true, false, false, false, false, false] rfl rfl (take_ofW HT_.out HW_.out (by kernel_rfl)) (fun _ _ _ h => h) (Or.inl ⟨by rfl, ?_⟩) hHeld ?_ ?_
 rotate_left
 · rintro w' ⟨s0, s1, s2, s3, s4, s5⟩
   go_simp
   with_reducible rfl
 rotate_left
 · simp only [Act.put, List.setIfInBounds_toArray, List.set_cons_zero, List.set_cons_succ, i64_w, i32_w]
   rfl
 refine take_ (i := 7) (N := some 21) (v := ?_) (a' := ?_) #[true, true, false, true, true, false, true, true, false, false, false, false] rfl rfl (take_ofW HT_.out HW_.out (by kernel_rfl)) (fun _ _ _ h => h) (Or.inl ⟨by rfl, ?_⟩) hHeld ?_ ?_
 rotate_left
 · rintro w' ⟨s0, s1, s2, s3, s4, s5⟩
   go_simp
   with_reducible rfl
 rotate_left
 · simp only [Act.put, List.setIfInBounds_toArray, List.set_cons_zero, List.set_cons_succ, i64_w, i32_w]
   rfl
 refine one_ (i := 2) (N := some 16) #[true, true, true, true, true, false, true, true, false, false, false, false] rfl rfl (one_of HT_.out (by kernel_rfl)) (by decide) (fun K hK => ?_)
 refine goes_ Tryd.func30 (by kernel_rfl) rfl #[.agg #[.int .i64 a0_0, .int .u64 a0_1], .agg #[.int .i64 a1_0, .int .u64 a1_1]] (by rfl) rfl rfl (by (try simp only [List.map_toArray, List.map_cons, List.map_nil]); first | done | rfl | (simp only [List.length_drop, List.length_take]; rfl)) ?_
 with_reducible refine (wide_Cmp.calls a0_0 a0_1 a1_0 a1_1 t274 _ A4.out).mono ?_
 rintro e w12 ⟨rfl, hb⟩; refine ⟨_, rfl, ?_⟩; have n0_ := am (bb BK271 hb); have n1_ := am (bb BK272 hb); have n2_ := am (bb BK273 hb); have n3_ := am (below_step bz hb); clear BK271 BK272 BK273 HB; have BK271 := n0_; have BK272 := n1_; have BK273 := n2_; have HB := n3_; clear n0_ n1_ n2_ n3_; (try clear hb); (try clear hb2); (try clear hk); (try clear hi)
 refine hK.out _ _ ⟨(blk_cell BK271.out 0).trans rfl, (blk_cell BK271.out 1).trans rfl, (blk_cell BK272.out 0).trans rfl, (blk_cell BK272.out 1).trans rfl, (blk_cell BK273.out 0).trans rfl, (blk_cell BK273.out 1).trans rfl⟩ (fun hHeld => ?_)
 clear hK K
 refine norm_ (a' := ?_) ?_ ?_
 rotate_left
 · show Act.put _ (some 16) _ = _
   simp only [Act.put, List.setIfInBounds_toArray, List.set_cons_zero, List.set_cons_succ, i64_w, i32_w]
   rfl
 refine one_ (i := 5) (N := some 19) #[true, true, true, true, true, true, true, true, false, false, false, false] rfl rfl (one_of HT_.out (by kernel_rfl)) (by decide) (fun K hK => ?_)
 refine goes_ Tryd.func30 (by kernel_rfl) rfl #[.agg #[.int .i64 a1_0, .int .u64 a1_1], .agg #[.int .i64 a2_0, .int .u64 a2_1]] (by rfl) rfl rfl (by (try simp only [List.map_toArray, List.map_cons, List.map_nil]); first | done | rfl | (simp only [List.length_drop, List.length_take]; rfl)) ?_
 with_reducible refine (wide_Cmp.calls a1_0 a1_1 a2_0 a2_1 t275 _ A5.out).mono ?_
 rintro e w13 ⟨rfl, hb⟩; refine ⟨_, rfl, ?_⟩; have n0_ := am (bb BK271 hb); have n1_ := am (bb BK272 hb); have n2_ := am (bb BK273 hb); have n3_ := am (below_step bz hb); clear BK271 BK272 BK273 HB; have BK271 := n0_; have BK272 := n1_; have BK273 := n2_; have HB := n3_; clear n0_ n1_ n2_ n3_; (try clear hb); (try clear hb2); (try clear hk); (try clear hi)
 refine hK.out _ _ ⟨(blk_cell BK271.out 0).trans rfl, (blk_cell BK271.out 1).trans rfl, (blk_cell BK272.out 0).trans rfl, (blk_cell BK272.out 1).trans rfl, (blk_cell BK273.out 0).trans rfl, (blk_cell BK273.out 1).trans rfl⟩ (fun hHeld => ?_)
 clear hK K
 refine norm_ (a' := ?_) ?_ ?_
 rotate_left
 · show Act.put _ (some 19) _ = _
   simp only [Act.put, List.setIfInBounds_toArray, List.set_cons_zero, List.set_cons_succ, i64_w, i32_w]
   rfl
 refine one_ (i := 8) (N := some 22) #[true, true, true, true, true, true, true, true, true, false, false, false] rfl rfl (one_of HT_.out (by kernel_rfl)) (by decide) (fun K hK => ?_)
 refine goes_ Tryd.func30 (by kernel_rfl) rfl #[.agg #[.int .i64 a0_0, .int .u64 a0_1], .agg #[.int .i64 a2_0, .int .u64 a2_1]] (by rfl) rfl rfl (by (try simp only [List.map_toArray, List.map_cons, List.map_nil]); first | done | rfl | (simp only [List.length_drop, List.length_take]; rfl)) ?_
 with_reducible refine (wide_Cmp.calls a0_0 a0_1 a2_0 a2_1 t276 _ A6.out).mono ?_
 rintro e w14 ⟨rfl, hb⟩; refine ⟨_, rfl, ?_⟩; have n0_ := am (bb BK271 hb); have n1_ := am (bb BK272 hb); have n2_ := am (bb BK273 hb); have n3_ := am (below_step bz hb); clear BK271 BK272 BK273 HB; have BK271 := n0_; have BK272 := n1_; have BK273 := n2_; have HB := n3_; clear n0_ n1_ n2_ n3_; (try clear hb); (try clear hb2); (try clear hk); (try clear hi)
 refine hK.out _ _ ⟨(blk_cell BK271.out 0).trans rfl, (blk_cell BK271.out 1).trans rfl, (blk_cell BK272.out 0).trans rfl, (blk_cell BK272.out 1).trans rfl, (blk_cell BK273.out 0).trans rfl, (blk_cell BK273.out 1).trans rfl⟩ (fun hHeld => ?_)
 clear hK K
 refine norm_ (a' := ?_) ?_ ?_
 rotate_left
 · show Act.put _ (some 22) _ = _
   simp only [Act.put, List.setIfInBounds_toArray, List.set_cons_zero, List.set_cons_succ, i64_w, i32_w]
   rfl
 refine pure_ (i := 9) (N := some 7) (v := ?_) (a' := ?_) #[true, true, true, true, true, true, true, true, true, true, false, false] rfl rfl (any_of HT_.out (by kernel_rfl)) (fun _ _ _ h => h) (Or.inl ⟨by rfl, ?_⟩) ?_ ?_
 rotate_left
 · intro w'
   go_simp
   with_reducible rfl
 rotate_left
 · simp only [Act.put, List.setIfInBounds_toArray, List.set_cons_zero, List.set_cons_succ, i64_w, i32_w]
   rfl
 refine pure_ (i := 10) (N := some 8) (v := ?_) (a' := ?_) #[true, true, true, true, true, true, true, true, true, true, true, false] rfl rfl (any_of HT_.out (by kernel_rfl)) (fun _ _ _ h => h) (Or.inl ⟨by rfl, ?_⟩) ?_ ?_
 rotate_left
 · intro w'
   go_simp
   with_reducible rfl
 rotate_left
 · simp only [Act.put, List.setIfInBounds_toArray, List.set_cons_zero, List.set_cons_succ, i64_w, i32_w]
   rfl
 refine pure_ (i := 11) (N := some 9) (v := ?_) (a' := ?_) #[true, true, true, true, true, true, true, true, true, true, true, true] rfl rfl (any_of HT_.out (by kernel_rfl)) (fun _ _ _ h => h) (Or.inl ⟨by rfl, ?_⟩) ?_ ?_
 rotate_left
 · intro w'
   go_simp
   with_reducible rfl
 rotate_left
 · simp only [Act.put, List.setIfInBounds_toArray, List.set_cons_zero, List.set_cons_succ, i64_w, i32_w]
   rfl
 refine done_ (done_of HT_.out (by kernel_rfl)) ?_
 go_upto_region 2 with (fail)
 go_cut [64] (fun v64 wc => ∃ (kq : Nat) (x64_6 : Bool), v64 = .bool x64_6 ∧ Aside0 (tumblerlaw01_WideOrders.j0 kq t274 x64_6 a0_0 a0_1 a1_0 a1_1 a2_0 a2_1 = some r) ∧ Aside0 (kq ≤ k) ∧ Aside0 (wc.heap[gb271]? = some (.cells #[.int .i64 a0_0, .int .u64 a0_1] 24 (0, 0))) ∧ Aside0 (wc.heap[gb272]? = some (.cells #[.int .i64 a1_0, .int .u64 a1_1] 24 (0, 0))) ∧ Aside0 (wc.heap[gb273]? = some (.cells #[.int .i64 a2_0, .int .u64 a2_1] 24 (0, 0))) ∧ Aside0 (Below w.heap.size w wc))
 case first =>
  have H := HC7.out; clear HC7
  replace H := Option.bind_eq_some_iff.mp H
  obtain ⟨t277, A150, H⟩ := H
  replace H : (if t277 = (wrap64 (-t274)) then (if t274 ≤ 0 then (if t275 ≤ 0 then (if t276 > 0 then (tumblerlaw01_WideOrders.j0 k t274 true a0_0 a0_1 a1_0 a1_1 a2_0 a2_1) else (if t274 ≥ 0 then (if t275 ≥ 0 then (if t276 < 0 then (tumblerlaw01_WideOrders.j0 k t274 true a0_0 a0_1 a1_0 a1_1 a2_0 a2_1) else (if t274 < 0 then (tumblerlaw01_WideOrders.j0 k t274 (decide (t276 ≥ 0)) a0_0 a0_1 a1_0 a1_1 a2_0 a2_1) else (tumblerlaw01_WideOrders.j0 k t274 false a0_0 a0_1 a1_0 a1_1 a2_0 a2_1))) else (if t274 < 0 then (tumblerlaw01_WideOrders.j0 k t274 (decide (t276 ≥ 0)) a0_0 a0_1 a1_0 a1_1 a2_0 a2_1) else (tumblerlaw01_WideOrders.j0 k t274 false a0_0 a0_1 a1_0 a1_1 a2_0 a2_1))) else (if t274 < 0 then (tumblerlaw01_WideOrders.j0 k t274 (decide (t276 ≥ 0)) a0_0 a0_1 a1_0 a1_1 a2_0 a2_1) else (tumblerlaw01_WideOrders.j0 k t274 false a0_0 a0_1 a1_0 a1_1 a2_0 a2_1)))) else (if t274 ≥ 0 then (if t275 ≥ 0 then (if t276 < 0 then (tumblerlaw01_WideOrders.j0 k t274 true a0_0 a0_1 a1_0 a1_1 a2_0 a2_1) else (if t274 < 0 then (tumblerlaw01_WideOrders.j0 k t274 false a0_0 a0_1 a1_0 a1_1 a2_0 a2_1) else (tumblerlaw01_WideOrders.j0 k t274 false a0_0 a0_1 a1_0 a1_1 a2_0 a2_1))) else (if t274 < 0 then (tumblerlaw01_WideOrders.j0 k t274 false a0_0 a0_1 a1_0 a1_1 a2_0 a2_1) else (tumblerlaw01_WideOrders.j0 k t274 false a0_0 a0_1 a1_0 a1_1 a2_0 a2_1))) else (if t274 < 0 then (tumblerlaw01_WideOrders.j0 k t274 false a0_0 a0_1 a1_0 a1_1 a2_0 a2_1) else (tumblerlaw01_WideOrders.j0 k t274 false a0_0 a0_1 a1_0 a1_1 a2_0 a2_1)))) else (if t274 ≥ 0 then (if t275 ≥ 0 then (if t276 < 0 then (tumblerlaw01_WideOrders.j0 k t274 true a0_0 a0_1 a1_0 a1_1 a2_0 a2_1) else (if t274 < 0 then (if t275 ≤ 0 then (tumblerlaw01_WideOrders.j0 k t274 (decide (t276 ≥ 0)) a0_0 a0_1 a1_0 a1_1 a2_0 a2_1) else (tumblerlaw01_WideOrders.j0 k t274 false a0_0 a0_1 a1_0 a1_1 a2_0 a2_1)) else (tumblerlaw01_WideOrders.j0 k t274 false a0_0 a0_1 a1_0 a1_1 a2_0 a2_1))) else (if t274 < 0 then (if t275 ≤ 0 then (tumblerlaw01_WideOrders.j0 k t274 (decide (t276 ≥ 0)) a0_0 a0_1 a1_0 a1_1 a2_0 a2_1) else (tumblerlaw01_WideOrders.j0 k t274 false a0_0 a0_1 a1_0 a1_1 a2_0 a2_1)) else (tumblerlaw01_WideOrders.j0 k t274 false a0_0 a0_1 a1_0 a1_1 a2_0 a2_1))) else (if t274 < 0 then (if t275 ≤ 0 then (tumblerlaw01_WideOrders.j0 k t274 (decide (t276 ≥ 0)) a0_0 a0_1 a1_0 a1_1 a2_0 a2_1) else (tumblerlaw01_WideOrders.j0 k t274 false a0_0 a0_1 a1_0 a1_1 a2_0 a2_1)) else (tumblerlaw01_WideOrders.j0 k t274 false a0_0 a0_1 a1_0 a1_1 a2_0 a2_1)))) else (tumblerlaw01_WideOrders.j0 k t274 true a0_0 a0_1 a1_0 a1_1 a2_0 a2_1)) = some r := H
  have A15 := Aside0.mk A150; clear A150
  by_cases c16 : t277 = (wrap64 (-t274))
  · rw [if_pos c16] at H
    have c16b0 : (t277 == (wrap64 (-t274))) = true := beq_iff_eq.mpr c16; have c16b1 : (t277 != (wrap64 (-t274))) = false := bne_eq_false_iff_eq.mpr c16; clear c16
    (first | rw [c16b0] | (simp only [i64_w, i32_w]; rw [c16b0]) | skip)
    by_cases c17 : t274 ≤ 0
    · rw [if_pos c17] at H
      have c17b0 : decide (t274 ≤ 0) = true := decide_eq_true c17; clear c17
      by_cases c18 : t275 ≤ 0
      · rw [if_pos c18] at H
        have c18b0 : decide (t275 ≤ 0) = true := decide_eq_true c18; clear c18
        by_cases c19 : t276 > 0
        · rw [if_pos c19] at H
          have c19b0 : decide (0 < t276) = true := decide_eq_true c19; clear c19; have H' := Aside0.mk H; clear H; have hnb20 := NB272_271.out; have hnc20 := NB271_272.out; have hnb21 := NB272_273.out; have hnc21 := NB273_272.out; have hcz22_0 : w14.cell? ⟨gb272, 0, none⟩ = some (.int .i64 a1_0) := (blk_cell BK272.out 0).trans rfl; have hcz22_1 : w14.cell? ⟨gb272, 1, none⟩ = some (.int .u64 a1_1) := (blk_cell BK272.out 1).trans rfl; have hfz22_0 := blk_frozen BK272.out 0; have hfz22_1 := blk_frozen BK272.out 1; have hnb23 := NB271_273.out; have hnc23 := NB273_271.out; have hcz24_0 : w14.cell? ⟨gb271, 0, none⟩ = some (.int .i64 a0_0) := (blk_cell BK271.out 0).trans rfl; have hcz24_1 : w14.cell? ⟨gb271, 1, none⟩ = some (.int .u64 a0_1) := (blk_cell BK271.out 1).trans rfl; have hfz24_0 := blk_frozen BK271.out 0; have hfz24_1 := blk_frozen BK271.out 1
          go_wp2_with (first | ((with_reducible refine gate_callee (f := 30) rfl ?_); refine goesL_ (some 25) rfl rfl Tryd.func30 (by kernel_rfl) rfl #[.agg #[.int .i64 a1_0, .int .u64 a1_1], .agg #[.int .i64 a0_0, .int .u64 a0_1]] rfl (by (try simp only [List.map_toArray, List.map_cons, List.map_nil]); first | done | rfl | (simp only [List.length_drop, List.length_take]; rfl)) ?_; (with_reducible refine (wide_Cmp.calls a1_0 a1_1 a0_0 a0_1 t277 _ A15.out).mono ?_); rintro e w25 ⟨rfl, hb⟩; refine ⟨_, rfl, ?_⟩; have n0_ := am (bb BK271 hb); have n1_ := am (bb BK272 hb); have n2_ := am (bb BK273 hb); have n3_ := am (below_step bz hb); clear BK271; clear BK272; clear BK273; clear HB; have BK271 := n0_; have BK272 := n1_; have BK273 := n2_; have HB := n3_; clear n0_ n1_ n2_ n3_; (try clear hb); (try clear hb2); (try clear hk); (try clear hi)))
          go_meet
          case rel => exact ⟨_, (true), (by first | rfl | (simp; done) | (simp [*]; done)), H', ⟨by first | omega | exact Nat.le_refl _⟩, ⟨by (with_reducible repeat (first | apply bA | apply bB | apply bC)); exact BK271.out⟩, ⟨by (with_reducible repeat (first | apply bA | apply bB | apply bC)); exact BK272.out⟩, ⟨by (with_reducible repeat (first | apply bA | apply bB | apply bC)); exact BK273.out⟩, ⟨by repeat (first | (with_reducible first | exact HB.out | apply dA | apply dB | apply dC | refine dE ?_ ‹_›) | exact HB.out)⟩⟩
        · rw [if_neg c19] at H
          have c19b0 : decide (0 < t276) = false := decide_eq_false c19; clear c19
          by_cases c26 : t274 ≥ 0
          · rw [if_pos c26] at H
            have c26b0 : decide (0 ≤ t274) = true := decide_eq_true c26; clear c26
            by_cases c27 : t275 ≥ 0
            · rw [if_pos c27] at H
              have c27b0 : decide (0 ≤ t275) = true := decide_eq_true c27; clear c27
              by_cases c28 : t276 < 0
              · rw [if_pos c28] at H
                have c28b0 : decide (t276 < 0) = true := decide_eq_true c28; clear c28; have H' := Aside0.mk H; clear H; have hnb29 := NB272_271.out; have hnc29 := NB271_272.out; have hnb30 := NB272_273.out; have hnc30 := NB273_272.out; have hcz31_0 : w14.cell? ⟨gb272, 0, none⟩ = some (.int .i64 a1_0) := (blk_cell BK272.out 0).trans rfl; have hcz31_1 : w14.cell? ⟨gb272, 1, none⟩ = some (.int .u64 a1_1) := (blk_cell BK272.out 1).trans rfl; have hfz31_0 := blk_frozen BK272.out 0; have hfz31_1 := blk_frozen BK272.out 1; have hnb32 := NB271_273.out; have hnc32 := NB273_271.out; have hcz33_0 : w14.cell? ⟨gb271, 0, none⟩ = some (.int .i64 a0_0) := (blk_cell BK271.out 0).trans rfl; have hcz33_1 : w14.cell? ⟨gb271, 1, none⟩ = some (.int .u64 a0_1) := (blk_cell BK271.out 1).trans rfl; have hfz33_0 := blk_frozen BK271.out 0; have hfz33_1 := blk_frozen BK271.out 1
                go_wp2_with (first | ((with_reducible refine gate_callee (f := 30) rfl ?_); refine goesL_ (some 25) rfl rfl Tryd.func30 (by kernel_rfl) rfl #[.agg #[.int .i64 a1_0, .int .u64 a1_1], .agg #[.int .i64 a0_0, .int .u64 a0_1]] rfl (by (try simp only [List.map_toArray, List.map_cons, List.map_nil]); first | done | rfl | (simp only [List.length_drop, List.length_take]; rfl)) ?_; (with_reducible refine (wide_Cmp.calls a1_0 a1_1 a0_0 a0_1 t277 _ A15.out).mono ?_); rintro e w34 ⟨rfl, hb⟩; refine ⟨_, rfl, ?_⟩; have n0_ := am (bb BK271 hb); have n1_ := am (bb BK272 hb); have n2_ := am (bb BK273 hb); have n3_ := am (below_step bz hb); clear BK271; clear BK272; clear BK273; clear HB; have BK271 := n0_; have BK272 := n1_; have BK273 := n2_; have HB := n3_; clear n0_ n1_ n2_ n3_; (try clear hb); (try clear hb2); (try clear hk); (try clear hi)))
                go_meet
                case rel => exact ⟨_, (true), (by first | rfl | (simp; done) | (simp [*]; done)), H', ⟨by first | omega | exact Nat.le_refl _⟩, ⟨by (with_reducible repeat (first | apply bA | apply bB | apply bC)); exact BK271.out⟩, ⟨by (with_reducible repeat (first | apply bA | apply bB | apply bC)); exact BK272.out⟩, ⟨by (with_reducible repeat (first | apply bA | apply bB | apply bC)); exact BK273.out⟩, ⟨by repeat (first | (with_reducible first | exact HB.out | apply dA | apply dB | apply dC | refine dE ?_ ‹_›) | exact HB.out)⟩⟩
              · rw [if_neg c28] at H
                have c28b0 : decide (t276 < 0) = false := decide_eq_false c28; clear c28
                by_cases c35 : t274 < 0
                · rw [if_pos c35] at H
                  have c35b0 : decide (t274 < 0) = true := decide_eq_true c35; clear c35; have H' := Aside0.mk H; clear H; have hnb36 := NB272_271.out; have hnc36 := NB271_272.out; have hnb37 := NB272_273.out; have hnc37 := NB273_272.out; have hcz38_0 : w14.cell? ⟨gb272, 0, none⟩ = some (.int .i64 a1_0) := (blk_cell BK272.out 0).trans rfl; have hcz38_1 : w14.cell? ⟨gb272, 1, none⟩ = some (.int .u64 a1_1) := (blk_cell BK272.out 1).trans rfl; have hfz38_0 := blk_frozen BK272.out 0; have hfz38_1 := blk_frozen BK272.out 1; have hnb39 := NB271_273.out; have hnc39 := NB273_271.out; have hcz40_0 : w14.cell? ⟨gb271, 0, none⟩ = some (.int .i64 a0_0) := (blk_cell BK271.out 0).trans rfl; have hcz40_1 : w14.cell? ⟨gb271, 1, none⟩ = some (.int .u64 a0_1) := (blk_cell BK271.out 1).trans rfl; have hfz40_0 := blk_frozen BK271.out 0; have hfz40_1 := blk_frozen BK271.out 1
                  go_wp2_with (first | ((with_reducible refine gate_callee (f := 30) rfl ?_); refine goesL_ (some 25) rfl rfl Tryd.func30 (by kernel_rfl) rfl #[.agg #[.int .i64 a1_0, .int .u64 a1_1], .agg #[.int .i64 a0_0, .int .u64 a0_1]] rfl (by (try simp only [List.map_toArray, List.map_cons, List.map_nil]); first | done | rfl | (simp only [List.length_drop, List.length_take]; rfl)) ?_; (with_reducible refine (wide_Cmp.calls a1_0 a1_1 a0_0 a0_1 t277 _ A15.out).mono ?_); rintro e w41 ⟨rfl, hb⟩; refine ⟨_, rfl, ?_⟩; have n0_ := am (bb BK271 hb); have n1_ := am (bb BK272 hb); have n2_ := am (bb BK273 hb); have n3_ := am (below_step bz hb); clear BK271; clear BK272; clear BK273; clear HB; have BK271 := n0_; have BK272 := n1_; have BK273 := n2_; have HB := n3_; clear n0_ n1_ n2_ n3_; (try clear hb); (try clear hb2); (try clear hk); (try clear hi)))
                  go_meet
                  case rel => exact ⟨_, (decide (t276 ≥ 0)), (by first | rfl | (simp; done) | (simp [*]; done)), H', ⟨by first | omega | exact Nat.le_refl _⟩, ⟨by (with_reducible repeat (first | apply bA | apply bB | apply bC)); exact BK271.out⟩, ⟨by (with_reducible repeat (first | apply bA | apply bB | apply bC)); exact BK272.out⟩, ⟨by (with_reducible repeat (first | apply bA | apply bB | apply bC)); exact BK273.out⟩, ⟨by repeat (first | (with_reducible first | exact HB.out | apply dA | apply dB | apply dC | refine dE ?_ ‹_›) | exact HB.out)⟩⟩
                · rw [if_neg c35] at H
                  have c35b0 : decide (t274 < 0) = false := decide_eq_false c35; clear c35; have H' := Aside0.mk H; clear H; have hnb42 := NB272_271.out; have hnc42 := NB271_272.out; have hnb43 := NB272_273.out; have hnc43 := NB273_272.out; have hcz44_0 : w14.cell? ⟨gb272, 0, none⟩ = some (.int .i64 a1_0) := (blk_cell BK272.out 0).trans rfl; have hcz44_1 : w14.cell? ⟨gb272, 1, none⟩ = some (.int .u64 a1_1) := (blk_cell BK272.out 1).trans rfl; have hfz44_0 := blk_frozen BK272.out 0; have hfz44_1 := blk_frozen BK272.out 1; have hnb45 := NB271_273.out; have hnc45 := NB273_271.out; have hcz46_0 : w14.cell? ⟨gb271, 0, none⟩ = some (.int .i64 a0_0) := (blk_cell BK271.out 0).trans rfl; have hcz46_1 : w14.cell? ⟨gb271, 1, none⟩ = some (.int .u64 a0_1) := (blk_cell BK271.out 1).trans rfl; have hfz46_0 := blk_frozen BK271.out 0; have hfz46_1 := blk_frozen BK271.out 1
                  go_wp2_with (first | ((with_reducible refine gate_callee (f := 30) rfl ?_); refine goesL_ (some 25) rfl rfl Tryd.func30 (by kernel_rfl) rfl #[.agg #[.int .i64 a1_0, .int .u64 a1_1], .agg #[.int .i64 a0_0, .int .u64 a0_1]] rfl (by (try simp only [List.map_toArray, List.map_cons, List.map_nil]); first | done | rfl | (simp only [List.length_drop, List.length_take]; rfl)) ?_; (with_reducible refine (wide_Cmp.calls a1_0 a1_1 a0_0 a0_1 t277 _ A15.out).mono ?_); rintro e w47 ⟨rfl, hb⟩; refine ⟨_, rfl, ?_⟩; have n0_ := am (bb BK271 hb); have n1_ := am (bb BK272 hb); have n2_ := am (bb BK273 hb); have n3_ := am (below_step bz hb); clear BK271; clear BK272; clear BK273; clear HB; have BK271 := n0_; have BK272 := n1_; have BK273 := n2_; have HB := n3_; clear n0_ n1_ n2_ n3_; (try clear hb); (try clear hb2); (try clear hk); (try clear hi)))
                  go_meet
                  case rel => exact ⟨_, (false), (by first | rfl | (simp; done) | (simp [*]; done)), H', ⟨by first | omega | exact Nat.le_refl _⟩, ⟨by (with_reducible repeat (first | apply bA | apply bB | apply bC)); exact BK271.out⟩, ⟨by (with_reducible repeat (first | apply bA | apply bB | apply bC)); exact BK272.out⟩, ⟨by (with_reducible repeat (first | apply bA | apply bB | apply bC)); exact BK273.out⟩, ⟨by repeat (first | (with_reducible first | exact HB.out | apply dA | apply dB | apply dC | refine dE ?_ ‹_›) | exact HB.out)⟩⟩
            · rw [if_neg c27] at H
              have c27b0 : decide (0 ≤ t275) = false := decide_eq_false c27; clear c27
              by_cases c48 : t274 < 0
              · rw [if_pos c48] at H
                have c48b0 : decide (t274 < 0) = true := decide_eq_true c48; clear c48; have H' := Aside0.mk H; clear H; have hnb49 := NB272_271.out; have hnc49 := NB271_272.out; have hnb50 := NB272_273.out; have hnc50 := NB273_272.out; have hcz51_0 : w14.cell? ⟨gb272, 0, none⟩ = some (.int .i64 a1_0) := (blk_cell BK272.out 0).trans rfl; have hcz51_1 : w14.cell? ⟨gb272, 1, none⟩ = some (.int .u64 a1_1) := (blk_cell BK272.out 1).trans rfl; have hfz51_0 := blk_frozen BK272.out 0; have hfz51_1 := blk_frozen BK272.out 1; have hnb52 := NB271_273.out; have hnc52 := NB273_271.out; have hcz53_0 : w14.cell? ⟨gb271, 0, none⟩ = some (.int .i64 a0_0) := (blk_cell BK271.out 0).trans rfl; have hcz53_1 : w14.cell? ⟨gb271, 1, none⟩ = some (.int .u64 a0_1) := (blk_cell BK271.out 1).trans rfl; have hfz53_0 := blk_frozen BK271.out 0; have hfz53_1 := blk_frozen BK271.out 1
                go_wp2_with (first | ((with_reducible refine gate_callee (f := 30) rfl ?_); refine goesL_ (some 25) rfl rfl Tryd.func30 (by kernel_rfl) rfl #[.agg #[.int .i64 a1_0, .int .u64 a1_1], .agg #[.int .i64 a0_0, .int .u64 a0_1]] rfl (by (try simp only [List.map_toArray, List.map_cons, List.map_nil]); first | done | rfl | (simp only [List.length_drop, List.length_take]; rfl)) ?_; (with_reducible refine (wide_Cmp.calls a1_0 a1_1 a0_0 a0_1 t277 _ A15.out).mono ?_); rintro e w54 ⟨rfl, hb⟩; refine ⟨_, rfl, ?_⟩; have n0_ := am (bb BK271 hb); have n1_ := am (bb BK272 hb); have n2_ := am (bb BK273 hb); have n3_ := am (below_step bz hb); clear BK271; clear BK272; clear BK273; clear HB; have BK271 := n0_; have BK272 := n1_; have BK273 := n2_; have HB := n3_; clear n0_ n1_ n2_ n3_; (try clear hb); (try clear hb2); (try clear hk); (try clear hi)))
                go_meet
                case rel => exact ⟨_, (decide (t276 ≥ 0)), (by first | rfl | (simp; done) | (simp [*]; done)), H', ⟨by first | omega | exact Nat.le_refl _⟩, ⟨by (with_reducible repeat (first | apply bA | apply bB | apply bC)); exact BK271.out⟩, ⟨by (with_reducible repeat (first | apply bA | apply bB | apply bC)); exact BK272.out⟩, ⟨by (with_reducible repeat (first | apply bA | apply bB | apply bC)); exact BK273.out⟩, ⟨by repeat (first | (with_reducible first | exact HB.out | apply dA | apply dB | apply dC | refine dE ?_ ‹_›) | exact HB.out)⟩⟩
              · rw [if_neg c48] at H
                have c48b0 : decide (t274 < 0) = false := decide_eq_false c48; clear c48; have H' := Aside0.mk H; clear H; have hnb55 := NB272_271.out; have hnc55 := NB271_272.out; have hnb56 := NB272_273.out; have hnc56 := NB273_272.out; have hcz57_0 : w14.cell? ⟨gb272, 0, none⟩ = some (.int .i64 a1_0) := (blk_cell BK272.out 0).trans rfl; have hcz57_1 : w14.cell? ⟨gb272, 1, none⟩ = some (.int .u64 a1_1) := (blk_cell BK272.out 1).trans rfl; have hfz57_0 := blk_frozen BK272.out 0; have hfz57_1 := blk_frozen BK272.out 1; have hnb58 := NB271_273.out; have hnc58 := NB273_271.out; have hcz59_0 : w14.cell? ⟨gb271, 0, none⟩ = some (.int .i64 a0_0) := (blk_cell BK271.out 0).trans rfl; have hcz59_1 : w14.cell? ⟨gb271, 1, none⟩ = some (.int .u64 a0_1) := (blk_cell BK271.out 1).trans rfl; have hfz59_0 := blk_frozen BK271.out 0; have hfz59_1 := blk_frozen BK271.out 1
                go_wp2_with (first | ((with_reducible refine gate_callee (f := 30) rfl ?_); refine goesL_ (some 25) rfl rfl Tryd.func30 (by kernel_rfl) rfl #[.agg #[.int .i64 a1_0, .int .u64 a1_1], .agg #[.int .i64 a0_0, .int .u64 a0_1]] rfl (by (try simp only [List.map_toArray, List.map_cons, List.map_nil]); first | done | rfl | (simp only [List.length_drop, List.length_take]; rfl)) ?_; (with_reducible refine (wide_Cmp.calls a1_0 a1_1 a0_0 a0_1 t277 _ A15.out).mono ?_); rintro e w60 ⟨rfl, hb⟩; refine ⟨_, rfl, ?_⟩; have n0_ := am (bb BK271 hb); have n1_ := am (bb BK272 hb); have n2_ := am (bb BK273 hb); have n3_ := am (below_step bz hb); clear BK271; clear BK272; clear BK273; clear HB; have BK271 := n0_; have BK272 := n1_; have BK273 := n2_; have HB := n3_; clear n0_ n1_ n2_ n3_; (try clear hb); (try clear hb2); (try clear hk); (try clear hi)))
                go_meet
                case rel => exact ⟨_, (false), (by first | rfl | (simp; done) | (simp [*]; done)), H', ⟨by first | omega | exact Nat.le_refl _⟩, ⟨by (with_reducible repeat (first | apply bA | apply bB | apply bC)); exact BK271.out⟩, ⟨by (with_reducible repeat (first | apply bA | apply bB | apply bC)); exact BK272.out⟩, ⟨by (with_reducible repeat (first | apply bA | apply bB | apply bC)); exact BK273.out⟩, ⟨by repeat (first | (with_reducible first | exact HB.out | apply dA | apply dB | apply dC | refine dE ?_ ‹_›) | exact HB.out)⟩⟩
          · rw [if_neg c26] at H
            have c26b0 : decide (0 ≤ t274) = false := decide_eq_false c26; clear c26
            by_cases c61 : t274 < 0
            · rw [if_pos c61] at H
              have c61b0 : decide (t274 < 0) = true := decide_eq_true c61; clear c61; have H' := Aside0.mk H; clear H; have hnb62 := NB272_271.out; have hnc62 := NB271_272.out; have hnb63 := NB272_273.out; have hnc63 := NB273_272.out; have hcz64_0 : w14.cell? ⟨gb272, 0, none⟩ = some (.int .i64 a1_0) := (blk_cell BK272.out 0).trans rfl; have hcz64_1 : w14.cell? ⟨gb272, 1, none⟩ = some (.int .u64 a1_1) := (blk_cell BK272.out 1).trans rfl; have hfz64_0 := blk_frozen BK272.out 0; have hfz64_1 := blk_frozen BK272.out 1; have hnb65 := NB271_273.out; have hnc65 := NB273_271.out; have hcz66_0 : w14.cell? ⟨gb271, 0, none⟩ = some (.int .i64 a0_0) := (blk_cell BK271.out 0).trans rfl; have hcz66_1 : w14.cell? ⟨gb271, 1, none⟩ = some (.int .u64 a0_1) := (blk_cell BK271.out 1).trans rfl; have hfz66_0 := blk_frozen BK271.out 0; have hfz66_1 := blk_frozen BK271.out 1
              go_wp2_with (first | ((with_reducible refine gate_callee (f := 30) rfl ?_); refine goesL_ (some 25) rfl rfl Tryd.func30 (by kernel_rfl) rfl #[.agg #[.int .i64 a1_0, .int .u64 a1_1], .agg #[.int .i64 a0_0, .int .u64 a0_1]] rfl (by (try simp only [List.map_toArray, List.map_cons, List.map_nil]); first | done | rfl | (simp only [List.length_drop, List.length_take]; rfl)) ?_; (with_reducible refine (wide_Cmp.calls a1_0 a1_1 a0_0 a0_1 t277 _ A15.out).mono ?_); rintro e w67 ⟨rfl, hb⟩; refine ⟨_, rfl, ?_⟩; have n0_ := am (bb BK271 hb); have n1_ := am (bb BK272 hb); have n2_ := am (bb BK273 hb); have n3_ := am (below_step bz hb); clear BK271; clear BK272; clear BK273; clear HB; have BK271 := n0_; have BK272 := n1_; have BK273 := n2_; have HB := n3_; clear n0_ n1_ n2_ n3_; (try clear hb); (try clear hb2); (try clear hk); (try clear hi)))
              go_meet
              case rel => exact ⟨_, (decide (t276 ≥ 0)), (by first | rfl | (simp; done) | (simp [*]; done)), H', ⟨by first | omega | exact Nat.le_refl _⟩, ⟨by (with_reducible repeat (first | apply bA | apply bB | apply bC)); exact BK271.out⟩, ⟨by (with_reducible repeat (first | apply bA | apply bB | apply bC)); exact BK272.out⟩, ⟨by (with_reducible repeat (first | apply bA | apply bB | apply bC)); exact BK273.out⟩, ⟨by repeat (first | (with_reducible first | exact HB.out | apply dA | apply dB | apply dC | refine dE ?_ ‹_›) | exact HB.out)⟩⟩
            · rw [if_neg c61] at H
              have c61b0 : decide (t274 < 0) = false := decide_eq_false c61; clear c61; have H' := Aside0.mk H; clear H; have hnb68 := NB272_271.out; have hnc68 := NB271_272.out; have hnb69 := NB272_273.out; have hnc69 := NB273_272.out; have hcz70_0 : w14.cell? ⟨gb272, 0, none⟩ = some (.int .i64 a1_0) := (blk_cell BK272.out 0).trans rfl; have hcz70_1 : w14.cell? ⟨gb272, 1, none⟩ = some (.int .u64 a1_1) := (blk_cell BK272.out 1).trans rfl; have hfz70_0 := blk_frozen BK272.out 0; have hfz70_1 := blk_frozen BK272.out 1; have hnb71 := NB271_273.out; have hnc71 := NB273_271.out; have hcz72_0 : w14.cell? ⟨gb271, 0, none⟩ = some (.int .i64 a0_0) := (blk_cell BK271.out 0).trans rfl; have hcz72_1 : w14.cell? ⟨gb271, 1, none⟩ = some (.int .u64 a0_1) := (blk_cell BK271.out 1).trans rfl; have hfz72_0 := blk_frozen BK271.out 0; have hfz72_1 := blk_frozen BK271.out 1
              go_wp2_with (first | ((with_reducible refine gate_callee (f := 30) rfl ?_); refine goesL_ (some 25) rfl rfl Tryd.func30 (by kernel_rfl) rfl #[.agg #[.int .i64 a1_0, .int .u64 a1_1], .agg #[.int .i64 a0_0, .int .u64 a0_1]] rfl (by (try simp only [List.map_toArray, List.map_cons, List.map_nil]); first | done | rfl | (simp only [List.length_drop, List.length_take]; rfl)) ?_; (with_reducible refine (wide_Cmp.calls a1_0 a1_1 a0_0 a0_1 t277 _ A15.out).mono ?_); rintro e w73 ⟨rfl, hb⟩; refine ⟨_, rfl, ?_⟩; have n0_ := am (bb BK271 hb); have n1_ := am (bb BK272 hb); have n2_ := am (bb BK273 hb); have n3_ := am (below_step bz hb); clear BK271; clear BK272; clear BK273; clear HB; have BK271 := n0_; have BK272 := n1_; have BK273 := n2_; have HB := n3_; clear n0_ n1_ n2_ n3_; (try clear hb); (try clear hb2); (try clear hk); (try clear hi)))
              go_meet
              case rel => exact ⟨_, (false), (by first | rfl | (simp; done) | (simp [*]; done)), H', ⟨by first | omega | exact Nat.le_refl _⟩, ⟨by (with_reducible repeat (first | apply bA | apply bB | apply bC)); exact BK271.out⟩, ⟨by (with_reducible repeat (first | apply bA | apply bB | apply bC)); exact BK272.out⟩, ⟨by (with_reducible repeat (first | apply bA | apply bB | apply bC)); exact BK273.out⟩, ⟨by repeat (first | (with_reducible first | exact HB.out | apply dA | apply dB | apply dC | refine dE ?_ ‹_›) | exact HB.out)⟩⟩
      · rw [if_neg c18] at H
        have c18b0 : decide (t275 ≤ 0) = false := decide_eq_false c18; clear c18
        by_cases c74 : t274 ≥ 0
        · rw [if_pos c74] at H
          have c74b0 : decide (0 ≤ t274) = true := decide_eq_true c74; clear c74
          by_cases c75 : t275 ≥ 0
          · rw [if_pos c75] at H
            have c75b0 : decide (0 ≤ t275) = true := decide_eq_true c75; clear c75
            by_cases c76 : t276 < 0
            · rw [if_pos c76] at H
              have c76b0 : decide (t276 < 0) = true := decide_eq_true c76; clear c76; have H' := Aside0.mk H; clear H; have hnb77 := NB272_271.out; have hnc77 := NB271_272.out; have hnb78 := NB272_273.out; have hnc78 := NB273_272.out; have hcz79_0 : w14.cell? ⟨gb272, 0, none⟩ = some (.int .i64 a1_0) := (blk_cell BK272.out 0).trans rfl; have hcz79_1 : w14.cell? ⟨gb272, 1, none⟩ = some (.int .u64 a1_1) := (blk_cell BK272.out 1).trans rfl; have hfz79_0 := blk_frozen BK272.out 0; have hfz79_1 := blk_frozen BK272.out 1; have hnb80 := NB271_273.out; have hnc80 := NB273_271.out; have hcz81_0 : w14.cell? ⟨gb271, 0, none⟩ = some (.int .i64 a0_0) := (blk_cell BK271.out 0).trans rfl; have hcz81_1 : w14.cell? ⟨gb271, 1, none⟩ = some (.int .u64 a0_1) := (blk_cell BK271.out 1).trans rfl; have hfz81_0 := blk_frozen BK271.out 0; have hfz81_1 := blk_frozen BK271.out 1
              go_wp2_with (first | ((with_reducible refine gate_callee (f := 30) rfl ?_); refine goesL_ (some 25) rfl rfl Tryd.func30 (by kernel_rfl) rfl #[.agg #[.int .i64 a1_0, .int .u64 a1_1], .agg #[.int .i64 a0_0, .int .u64 a0_1]] rfl (by (try simp only [List.map_toArray, List.map_cons, List.map_nil]); first | done | rfl | (simp only [List.length_drop, List.length_take]; rfl)) ?_; (with_reducible refine (wide_Cmp.calls a1_0 a1_1 a0_0 a0_1 t277 _ A15.out).mono ?_); rintro e w82 ⟨rfl, hb⟩; refine ⟨_, rfl, ?_⟩; have n0_ := am (bb BK271 hb); have n1_ := am (bb BK272 hb); have n2_ := am (bb BK273 hb); have n3_ := am (below_step bz hb); clear BK271; clear BK272; clear BK273; clear HB; have BK271 := n0_; have BK272 := n1_; have BK273 := n2_; have HB := n3_; clear n0_ n1_ n2_ n3_; (try clear hb); (try clear hb2); (try clear hk); (try clear hi)))
              go_meet
              case rel => exact ⟨_, (true), (by first | rfl | (simp; done) | (simp [*]; done)), H', ⟨by first | omega | exact Nat.le_refl _⟩, ⟨by (with_reducible repeat (first | apply bA | apply bB | apply bC)); exact BK271.out⟩, ⟨by (with_reducible repeat (first | apply bA | apply bB | apply bC)); exact BK272.out⟩, ⟨by (with_reducible repeat (first | apply bA | apply bB | apply bC)); exact BK273.out⟩, ⟨by repeat (first | (with_reducible first | exact HB.out | apply dA | apply dB | apply dC | refine dE ?_ ‹_›) | exact HB.out)⟩⟩
            · rw [if_neg c76] at H
              have c76b0 : decide (t276 < 0) = false := decide_eq_false c76; clear c76
              by_cases c83 : t274 < 0
              · rw [if_pos c83] at H
                have c83b0 : decide (t274 < 0) = true := decide_eq_true c83; clear c83; have H' := Aside0.mk H; clear H; have hnb84 := NB272_271.out; have hnc84 := NB271_272.out; have hnb85 := NB272_273.out; have hnc85 := NB273_272.out; have hcz86_0 : w14.cell? ⟨gb272, 0, none⟩ = some (.int .i64 a1_0) := (blk_cell BK272.out 0).trans rfl; have hcz86_1 : w14.cell? ⟨gb272, 1, none⟩ = some (.int .u64 a1_1) := (blk_cell BK272.out 1).trans rfl; have hfz86_0 := blk_frozen BK272.out 0; have hfz86_1 := blk_frozen BK272.out 1; have hnb87 := NB271_273.out; have hnc87 := NB273_271.out; have hcz88_0 : w14.cell? ⟨gb271, 0, none⟩ = some (.int .i64 a0_0) := (blk_cell BK271.out 0).trans rfl; have hcz88_1 : w14.cell? ⟨gb271, 1, none⟩ = some (.int .u64 a0_1) := (blk_cell BK271.out 1).trans rfl; have hfz88_0 := blk_frozen BK271.out 0; have hfz88_1 := blk_frozen BK271.out 1
                go_wp2_with (first | ((with_reducible refine gate_callee (f := 30) rfl ?_); refine goesL_ (some 25) rfl rfl Tryd.func30 (by kernel_rfl) rfl #[.agg #[.int .i64 a1_0, .int .u64 a1_1], .agg #[.int .i64 a0_0, .int .u64 a0_1]] rfl (by (try simp only [List.map_toArray, List.map_cons, List.map_nil]); first | done | rfl | (simp only [List.length_drop, List.length_take]; rfl)) ?_; (with_reducible refine (wide_Cmp.calls a1_0 a1_1 a0_0 a0_1 t277 _ A15.out).mono ?_); rintro e w89 ⟨rfl, hb⟩; refine ⟨_, rfl, ?_⟩; have n0_ := am (bb BK271 hb); have n1_ := am (bb BK272 hb); have n2_ := am (bb BK273 hb); have n3_ := am (below_step bz hb); clear BK271; clear BK272; clear BK273; clear HB; have BK271 := n0_; have BK272 := n1_; have BK273 := n2_; have HB := n3_; clear n0_ n1_ n2_ n3_; (try clear hb); (try clear hb2); (try clear hk); (try clear hi)))
                go_meet
                case rel => exact ⟨_, (false), (by first | rfl | (simp; done) | (simp [*]; done)), H', ⟨by first | omega | exact Nat.le_refl _⟩, ⟨by (with_reducible repeat (first | apply bA | apply bB | apply bC)); exact BK271.out⟩, ⟨by (with_reducible repeat (first | apply bA | apply bB | apply bC)); exact BK272.out⟩, ⟨by (with_reducible repeat (first | apply bA | apply bB | apply bC)); exact BK273.out⟩, ⟨by repeat (first | (with_reducible first | exact HB.out | apply dA | apply dB | apply dC | refine dE ?_ ‹_›) | exact HB.out)⟩⟩
              · rw [if_neg c83] at H
                have c83b0 : decide (t274 < 0) = false := decide_eq_false c83; clear c83; have H' := Aside0.mk H; clear H; have hnb90 := NB272_271.out; have hnc90 := NB271_272.out; have hnb91 := NB272_273.out; have hnc91 := NB273_272.out; have hcz92_0 : w14.cell? ⟨gb272, 0, none⟩ = some (.int .i64 a1_0) := (blk_cell BK272.out 0).trans rfl; have hcz92_1 : w14.cell? ⟨gb272, 1, none⟩ = some (.int .u64 a1_1) := (blk_cell BK272.out 1).trans rfl; have hfz92_0 := blk_frozen BK272.out 0; have hfz92_1 := blk_frozen BK272.out 1; have hnb93 := NB271_273.out; have hnc93 := NB273_271.out; have hcz94_0 : w14.cell? ⟨gb271, 0, none⟩ = some (.int .i64 a0_0) := (blk_cell BK271.out 0).trans rfl; have hcz94_1 : w14.cell? ⟨gb271, 1, none⟩ = some (.int .u64 a0_1) := (blk_cell BK271.out 1).trans rfl; have hfz94_0 := blk_frozen BK271.out 0; have hfz94_1 := blk_frozen BK271.out 1
                go_wp2_with (first | ((with_reducible refine gate_callee (f := 30) rfl ?_); refine goesL_ (some 25) rfl rfl Tryd.func30 (by kernel_rfl) rfl #[.agg #[.int .i64 a1_0, .int .u64 a1_1], .agg #[.int .i64 a0_0, .int .u64 a0_1]] rfl (by (try simp only [List.map_toArray, List.map_cons, List.map_nil]); first | done | rfl | (simp only [List.length_drop, List.length_take]; rfl)) ?_; (with_reducible refine (wide_Cmp.calls a1_0 a1_1 a0_0 a0_1 t277 _ A15.out).mono ?_); rintro e w95 ⟨rfl, hb⟩; refine ⟨_, rfl, ?_⟩; have n0_ := am (bb BK271 hb); have n1_ := am (bb BK272 hb); have n2_ := am (bb BK273 hb); have n3_ := am (below_step bz hb); clear BK271; clear BK272; clear BK273; clear HB; have BK271 := n0_; have BK272 := n1_; have BK273 := n2_; have HB := n3_; clear n0_ n1_ n2_ n3_; (try clear hb); (try clear hb2); (try clear hk); (try clear hi)))
                go_meet
                case rel => exact ⟨_, (false), (by first | rfl | (simp; done) | (simp [*]; done)), H', ⟨by first | omega | exact Nat.le_refl _⟩, ⟨by (with_reducible repeat (first | apply bA | apply bB | apply bC)); exact BK271.out⟩, ⟨by (with_reducible repeat (first | apply bA | apply bB | apply bC)); exact BK272.out⟩, ⟨by (with_reducible repeat (first | apply bA | apply bB | apply bC)); exact BK273.out⟩, ⟨by repeat (first | (with_reducible first | exact HB.out | apply dA | apply dB | apply dC | refine dE ?_ ‹_›) | exact HB.out)⟩⟩
          · rw [if_neg c75] at H
            have c75b0 : decide (0 ≤ t275) = false := decide_eq_false c75; clear c75
            by_cases c96 : t274 < 0
            · rw [if_pos c96] at H
              have c96b0 : decide (t274 < 0) = true := decide_eq_true c96; clear c96; have H' := Aside0.mk H; clear H; have hnb97 := NB272_271.out; have hnc97 := NB271_272.out; have hnb98 := NB272_273.out; have hnc98 := NB273_272.out; have hcz99_0 : w14.cell? ⟨gb272, 0, none⟩ = some (.int .i64 a1_0) := (blk_cell BK272.out 0).trans rfl; have hcz99_1 : w14.cell? ⟨gb272, 1, none⟩ = some (.int .u64 a1_1) := (blk_cell BK272.out 1).trans rfl; have hfz99_0 := blk_frozen BK272.out 0; have hfz99_1 := blk_frozen BK272.out 1; have hnb100 := NB271_273.out; have hnc100 := NB273_271.out; have hcz101_0 : w14.cell? ⟨gb271, 0, none⟩ = some (.int .i64 a0_0) := (blk_cell BK271.out 0).trans rfl; have hcz101_1 : w14.cell? ⟨gb271, 1, none⟩ = some (.int .u64 a0_1) := (blk_cell BK271.out 1).trans rfl; have hfz101_0 := blk_frozen BK271.out 0; have hfz101_1 := blk_frozen BK271.out 1
              go_wp2_with (first | ((with_reducible refine gate_callee (f := 30) rfl ?_); refine goesL_ (some 25) rfl rfl Tryd.func30 (by kernel_rfl) rfl #[.agg #[.int .i64 a1_0, .int .u64 a1_1], .agg #[.int .i64 a0_0, .int .u64 a0_1]] rfl (by (try simp only [List.map_toArray, List.map_cons, List.map_nil]); first | done | rfl | (simp only [List.length_drop, List.length_take]; rfl)) ?_; (with_reducible refine (wide_Cmp.calls a1_0 a1_1 a0_0 a0_1 t277 _ A15.out).mono ?_); rintro e w102 ⟨rfl, hb⟩; refine ⟨_, rfl, ?_⟩; have n0_ := am (bb BK271 hb); have n1_ := am (bb BK272 hb); have n2_ := am (bb BK273 hb); have n3_ := am (below_step bz hb); clear BK271; clear BK272; clear BK273; clear HB; have BK271 := n0_; have BK272 := n1_; have BK273 := n2_; have HB := n3_; clear n0_ n1_ n2_ n3_; (try clear hb); (try clear hb2); (try clear hk); (try clear hi)))
              go_meet
              case rel => exact ⟨_, (false), (by first | rfl | (simp; done) | (simp [*]; done)), H', ⟨by first | omega | exact Nat.le_refl _⟩, ⟨by (with_reducible repeat (first | apply bA | apply bB | apply bC)); exact BK271.out⟩, ⟨by (with_reducible repeat (first | apply bA | apply bB | apply bC)); exact BK272.out⟩, ⟨by (with_reducible repeat (first | apply bA | apply bB | apply bC)); exact BK273.out⟩, ⟨by repeat (first | (with_reducible first | exact HB.out | apply dA | apply dB | apply dC | refine dE ?_ ‹_›) | exact HB.out)⟩⟩
            · rw [if_neg c96] at H
              have c96b0 : decide (t274 < 0) = false := decide_eq_false c96; clear c96; have H' := Aside0.mk H; clear H; have hnb103 := NB272_271.out; have hnc103 := NB271_272.out; have hnb104 := NB272_273.out; have hnc104 := NB273_272.out; have hcz105_0 : w14.cell? ⟨gb272, 0, none⟩ = some (.int .i64 a1_0) := (blk_cell BK272.out 0).trans rfl; have hcz105_1 : w14.cell? ⟨gb272, 1, none⟩ = some (.int .u64 a1_1) := (blk_cell BK272.out 1).trans rfl; have hfz105_0 := blk_frozen BK272.out 0; have hfz105_1 := blk_frozen BK272.out 1; have hnb106 := NB271_273.out; have hnc106 := NB273_271.out; have hcz107_0 : w14.cell? ⟨gb271, 0, none⟩ = some (.int .i64 a0_0) := (blk_cell BK271.out 0).trans rfl; have hcz107_1 : w14.cell? ⟨gb271, 1, none⟩ = some (.int .u64 a0_1) := (blk_cell BK271.out 1).trans rfl; have hfz107_0 := blk_frozen BK271.out 0; have hfz107_1 := blk_frozen BK271.out 1
              go_wp2_with (first | ((with_reducible refine gate_callee (f := 30) rfl ?_); refine goesL_ (some 25) rfl rfl Tryd.func30 (by kernel_rfl) rfl #[.agg #[.int .i64 a1_0, .int .u64 a1_1], .agg #[.int .i64 a0_0, .int .u64 a0_1]] rfl (by (try simp only [List.map_toArray, List.map_cons, List.map_nil]); first | done | rfl | (simp only [List.length_drop, List.length_take]; rfl)) ?_; (with_reducible refine (wide_Cmp.calls a1_0 a1_1 a0_0 a0_1 t277 _ A15.out).mono ?_); rintro e w108 ⟨rfl, hb⟩; refine ⟨_, rfl, ?_⟩; have n0_ := am (bb BK271 hb); have n1_ := am (bb BK272 hb); have n2_ := am (bb BK273 hb); have n3_ := am (below_step bz hb); clear BK271; clear BK272; clear BK273; clear HB; have BK271 := n0_; have BK272 := n1_; have BK273 := n2_; have HB := n3_; clear n0_ n1_ n2_ n3_; (try clear hb); (try clear hb2); (try clear hk); (try clear hi)))
              go_meet
              case rel => exact ⟨_, (false), (by first | rfl | (simp; done) | (simp [*]; done)), H', ⟨by first | omega | exact Nat.le_refl _⟩, ⟨by (with_reducible repeat (first | apply bA | apply bB | apply bC)); exact BK271.out⟩, ⟨by (with_reducible repeat (first | apply bA | apply bB | apply bC)); exact BK272.out⟩, ⟨by (with_reducible repeat (first | apply bA | apply bB | apply bC)); exact BK273.out⟩, ⟨by repeat (first | (with_reducible first | exact HB.out | apply dA | apply dB | apply dC | refine dE ?_ ‹_›) | exact HB.out)⟩⟩
        · rw [if_neg c74] at H
          have c74b0 : decide (0 ≤ t274) = false := decide_eq_false c74; clear c74
          by_cases c109 : t274 < 0
          · rw [if_pos c109] at H
            have c109b0 : decide (t274 < 0) = true := decide_eq_true c109; clear c109; have H' := Aside0.mk H; clear H; have hnb110 := NB272_271.out; have hnc110 := NB271_272.out; have hnb111 := NB272_273.out; have hnc111 := NB273_272.out; have hcz112_0 : w14.cell? ⟨gb272, 0, none⟩ = some (.int .i64 a1_0) := (blk_cell BK272.out 0).trans rfl; have hcz112_1 : w14.cell? ⟨gb272, 1, none⟩ = some (.int .u64 a1_1) := (blk_cell BK272.out 1).trans rfl; have hfz112_0 := blk_frozen BK272.out 0; have hfz112_1 := blk_frozen BK272.out 1; have hnb113 := NB271_273.out; have hnc113 := NB273_271.out; have hcz114_0 : w14.cell? ⟨gb271, 0, none⟩ = some (.int .i64 a0_0) := (blk_cell BK271.out 0).trans rfl; have hcz114_1 : w14.cell? ⟨gb271, 1, none⟩ = some (.int .u64 a0_1) := (blk_cell BK271.out 1).trans rfl; have hfz114_0 := blk_frozen BK271.out 0; have hfz114_1 := blk_frozen BK271.out 1
            go_wp2_with (first | ((with_reducible refine gate_callee (f := 30) rfl ?_); refine goesL_ (some 25) rfl rfl Tryd.func30 (by kernel_rfl) rfl #[.agg #[.int .i64 a1_0, .int .u64 a1_1], .agg #[.int .i64 a0_0, .int .u64 a0_1]] rfl (by (try simp only [List.map_toArray, List.map_cons, List.map_nil]); first | done | rfl | (simp only [List.length_drop, List.length_take]; rfl)) ?_; (with_reducible refine (wide_Cmp.calls a1_0 a1_1 a0_0 a0_1 t277 _ A15.out).mono ?_); rintro e w115 ⟨rfl, hb⟩; refine ⟨_, rfl, ?_⟩; have n0_ := am (bb BK271 hb); have n1_ := am (bb BK272 hb); have n2_ := am (bb BK273 hb); have n3_ := am (below_step bz hb); clear BK271; clear BK272; clear BK273; clear HB; have BK271 := n0_; have BK272 := n1_; have BK273 := n2_; have HB := n3_; clear n0_ n1_ n2_ n3_; (try clear hb); (try clear hb2); (try clear hk); (try clear hi)))
            go_meet
            case rel => exact ⟨_, (false), (by first | rfl | (simp; done) | (simp [*]; done)), H', ⟨by first | omega | exact Nat.le_refl _⟩, ⟨by (with_reducible repeat (first | apply bA | apply bB | apply bC)); exact BK271.out⟩, ⟨by (with_reducible repeat (first | apply bA | apply bB | apply bC)); exact BK272.out⟩, ⟨by (with_reducible repeat (first | apply bA | apply bB | apply bC)); exact BK273.out⟩, ⟨by repeat (first | (with_reducible first | exact HB.out | apply dA | apply dB | apply dC | refine dE ?_ ‹_›) | exact HB.out)⟩⟩
          · rw [if_neg c109] at H
            have c109b0 : decide (t274 < 0) = false := decide_eq_false c109; clear c109; have H' := Aside0.mk H; clear H; have hnb116 := NB272_271.out; have hnc116 := NB271_272.out; have hnb117 := NB272_273.out; have hnc117 := NB273_272.out; have hcz118_0 : w14.cell? ⟨gb272, 0, none⟩ = some (.int .i64 a1_0) := (blk_cell BK272.out 0).trans rfl; have hcz118_1 : w14.cell? ⟨gb272, 1, none⟩ = some (.int .u64 a1_1) := (blk_cell BK272.out 1).trans rfl; have hfz118_0 := blk_frozen BK272.out 0; have hfz118_1 := blk_frozen BK272.out 1; have hnb119 := NB271_273.out; have hnc119 := NB273_271.out; have hcz120_0 : w14.cell? ⟨gb271, 0, none⟩ = some (.int .i64 a0_0) := (blk_cell BK271.out 0).trans rfl; have hcz120_1 : w14.cell? ⟨gb271, 1, none⟩ = some (.int .u64 a0_1) := (blk_cell BK271.out 1).trans rfl; have hfz120_0 := blk_frozen BK271.out 0; have hfz120_1 := blk_frozen BK271.out 1
            go_wp2_with (first | ((with_reducible refine gate_callee (f := 30) rfl ?_); refine goesL_ (some 25) rfl rfl Tryd.func30 (by kernel_rfl) rfl #[.agg #[.int .i64 a1_0, .int .u64 a1_1], .agg #[.int .i64 a0_0, .int .u64 a0_1]] rfl (by (try simp only [List.map_toArray, List.map_cons, List.map_nil]); first | done | rfl | (simp only [List.length_drop, List.length_take]; rfl)) ?_; (with_reducible refine (wide_Cmp.calls a1_0 a1_1 a0_0 a0_1 t277 _ A15.out).mono ?_); rintro e w121 ⟨rfl, hb⟩; refine ⟨_, rfl, ?_⟩; have n0_ := am (bb BK271 hb); have n1_ := am (bb BK272 hb); have n2_ := am (bb BK273 hb); have n3_ := am (below_step bz hb); clear BK271; clear BK272; clear BK273; clear HB; have BK271 := n0_; have BK272 := n1_; have BK273 := n2_; have HB := n3_; clear n0_ n1_ n2_ n3_; (try clear hb); (try clear hb2); (try clear hk); (try clear hi)))
            go_meet
            case rel => exact ⟨_, (false), (by first | rfl | (simp; done) | (simp [*]; done)), H', ⟨by first | omega | exact Nat.le_refl _⟩, ⟨by (with_reducible repeat (first | apply bA | apply bB | apply bC)); exact BK271.out⟩, ⟨by (with_reducible repeat (first | apply bA | apply bB | apply bC)); exact BK272.out⟩, ⟨by (with_reducible repeat (first | apply bA | apply bB | apply bC)); exact BK273.out⟩, ⟨by repeat (first | (with_reducible first | exact HB.out | apply dA | apply dB | apply dC | refine dE ?_ ‹_›) | exact HB.out)⟩⟩
    · rw [if_neg c17] at H
      have c17b0 : decide (t274 ≤ 0) = false := decide_eq_false c17; clear c17
      by_cases c122 : t274 ≥ 0
      · rw [if_pos c122] at H
        have c122b0 : decide (0 ≤ t274) = true := decide_eq_true c122; clear c122
        by_cases c123 : t275 ≥ 0
        · rw [if_pos c123] at H
          have c123b0 : decide (0 ≤ t275) = true := decide_eq_true c123; clear c123
          by_cases c124 : t276 < 0
          · rw [if_pos c124] at H
            have c124b0 : decide (t276 < 0) = true := decide_eq_true c124; clear c124; have H' := Aside0.mk H; clear H; have hnb125 := NB272_271.out; have hnc125 := NB271_272.out; have hnb126 := NB272_273.out; have hnc126 := NB273_272.out; have hcz127_0 : w14.cell? ⟨gb272, 0, none⟩ = some (.int .i64 a1_0) := (blk_cell BK272.out 0).trans rfl; have hcz127_1 : w14.cell? ⟨gb272, 1, none⟩ = some (.int .u64 a1_1) := (blk_cell BK272.out 1).trans rfl; have hfz127_0 := blk_frozen BK272.out 0; have hfz127_1 := blk_frozen BK272.out 1; have hnb128 := NB271_273.out; have hnc128 := NB273_271.out; have hcz129_0 : w14.cell? ⟨gb271, 0, none⟩ = some (.int .i64 a0_0) := (blk_cell BK271.out 0).trans rfl; have hcz129_1 : w14.cell? ⟨gb271, 1, none⟩ = some (.int .u64 a0_1) := (blk_cell BK271.out 1).trans rfl; have hfz129_0 := blk_frozen BK271.out 0; have hfz129_1 := blk_frozen BK271.out 1
            go_wp2_with (first | ((with_reducible refine gate_callee (f := 30) rfl ?_); refine goesL_ (some 25) rfl rfl Tryd.func30 (by kernel_rfl) rfl #[.agg #[.int .i64 a1_0, .int .u64 a1_1], .agg #[.int .i64 a0_0, .int .u64 a0_1]] rfl (by (try simp only [List.map_toArray, List.map_cons, List.map_nil]); first | done | rfl | (simp only [List.length_drop, List.length_take]; rfl)) ?_; (with_reducible refine (wide_Cmp.calls a1_0 a1_1 a0_0 a0_1 t277 _ A15.out).mono ?_); rintro e w130 ⟨rfl, hb⟩; refine ⟨_, rfl, ?_⟩; have n0_ := am (bb BK271 hb); have n1_ := am (bb BK272 hb); have n2_ := am (bb BK273 hb); have n3_ := am (below_step bz hb); clear BK271; clear BK272; clear BK273; clear HB; have BK271 := n0_; have BK272 := n1_; have BK273 := n2_; have HB := n3_; clear n0_ n1_ n2_ n3_; (try clear hb); (try clear hb2); (try clear hk); (try clear hi)))
            go_meet
            case rel => exact ⟨_, (true), (by first | rfl | (simp; done) | (simp [*]; done)), H', ⟨by first | omega | exact Nat.le_refl _⟩, ⟨by (with_reducible repeat (first | apply bA | apply bB | apply bC)); exact BK271.out⟩, ⟨by (with_reducible repeat (first | apply bA | apply bB | apply bC)); exact BK272.out⟩, ⟨by (with_reducible repeat (first | apply bA | apply bB | apply bC)); exact BK273.out⟩, ⟨by repeat (first | (with_reducible first | exact HB.out | apply dA | apply dB | apply dC | refine dE ?_ ‹_›) | exact HB.out)⟩⟩
          · rw [if_neg c124] at H
            have c124b0 : decide (t276 < 0) = false := decide_eq_false c124; clear c124
            by_cases c131 : t274 < 0
            · rw [if_pos c131] at H
              have c131b0 : decide (t274 < 0) = true := decide_eq_true c131; clear c131
              by_cases c132 : t275 ≤ 0
              · rw [if_pos c132] at H
                have c132b0 : decide (t275 ≤ 0) = true := decide_eq_true c132; clear c132; have H' := Aside0.mk H; clear H; have hnb133 := NB272_271.out; have hnc133 := NB271_272.out; have hnb134 := NB272_273.out; have hnc134 := NB273_272.out; have hcz135_0 : w14.cell? ⟨gb272, 0, none⟩ = some (.int .i64 a1_0) := (blk_cell BK272.out 0).trans rfl; have hcz135_1 : w14.cell? ⟨gb272, 1, none⟩ = some (.int .u64 a1_1) := (blk_cell BK272.out 1).trans rfl; have hfz135_0 := blk_frozen BK272.out 0; have hfz135_1 := blk_frozen BK272.out 1; have hnb136 := NB271_273.out; have hnc136 := NB273_271.out; have hcz137_0 : w14.cell? ⟨gb271, 0, none⟩ = some (.int .i64 a0_0) := (blk_cell BK271.out 0).trans rfl; have hcz137_1 : w14.cell? ⟨gb271, 1, none⟩ = some (.int .u64 a0_1) := (blk_cell BK271.out 1).trans rfl; have hfz137_0 := blk_frozen BK271.out 0; have hfz137_1 := blk_frozen BK271.out 1
                go_wp2_with (first | ((with_reducible refine gate_callee (f := 30) rfl ?_); refine goesL_ (some 25) rfl rfl Tryd.func30 (by kernel_rfl) rfl #[.agg #[.int .i64 a1_0, .int .u64 a1_1], .agg #[.int .i64 a0_0, .int .u64 a0_1]] rfl (by (try simp only [List.map_toArray, List.map_cons, List.map_nil]); first | done | rfl | (simp only [List.length_drop, List.length_take]; rfl)) ?_; (with_reducible refine (wide_Cmp.calls a1_0 a1_1 a0_0 a0_1 t277 _ A15.out).mono ?_); rintro e w138 ⟨rfl, hb⟩; refine ⟨_, rfl, ?_⟩; have n0_ := am (bb BK271 hb); have n1_ := am (bb BK272 hb); have n2_ := am (bb BK273 hb); have n3_ := am (below_step bz hb); clear BK271; clear BK272; clear BK273; clear HB; have BK271 := n0_; have BK272 := n1_; have BK273 := n2_; have HB := n3_; clear n0_ n1_ n2_ n3_; (try clear hb); (try clear hb2); (try clear hk); (try clear hi)))
                go_meet
                case rel => exact ⟨_, (decide (t276 ≥ 0)), (by first | rfl | (simp; done) | (simp [*]; done)), H', ⟨by first | omega | exact Nat.le_refl _⟩, ⟨by (with_reducible repeat (first | apply bA | apply bB | apply bC)); exact BK271.out⟩, ⟨by (with_reducible repeat (first | apply bA | apply bB | apply bC)); exact BK272.out⟩, ⟨by (with_reducible repeat (first | apply bA | apply bB | apply bC)); exact BK273.out⟩, ⟨by repeat (first | (with_reducible first | exact HB.out | apply dA | apply dB | apply dC | refine dE ?_ ‹_›) | exact HB.out)⟩⟩
              · rw [if_neg c132] at H
                have c132b0 : decide (t275 ≤ 0) = false := decide_eq_false c132; clear c132; have H' := Aside0.mk H; clear H; have hnb139 := NB272_271.out; have hnc139 := NB271_272.out; have hnb140 := NB272_273.out; have hnc140 := NB273_272.out; have hcz141_0 : w14.cell? ⟨gb272, 0, none⟩ = some (.int .i64 a1_0) := (blk_cell BK272.out 0).trans rfl; have hcz141_1 : w14.cell? ⟨gb272, 1, none⟩ = some (.int .u64 a1_1) := (blk_cell BK272.out 1).trans rfl; have hfz141_0 := blk_frozen BK272.out 0; have hfz141_1 := blk_frozen BK272.out 1; have hnb142 := NB271_273.out; have hnc142 := NB273_271.out; have hcz143_0 : w14.cell? ⟨gb271, 0, none⟩ = some (.int .i64 a0_0) := (blk_cell BK271.out 0).trans rfl; have hcz143_1 : w14.cell? ⟨gb271, 1, none⟩ = some (.int .u64 a0_1) := (blk_cell BK271.out 1).trans rfl; have hfz143_0 := blk_frozen BK271.out 0; have hfz143_1 := blk_frozen BK271.out 1
                go_wp2_with (first | ((with_reducible refine gate_callee (f := 30) rfl ?_); refine goesL_ (some 25) rfl rfl Tryd.func30 (by kernel_rfl) rfl #[.agg #[.int .i64 a1_0, .int .u64 a1_1], .agg #[.int .i64 a0_0, .int .u64 a0_1]] rfl (by (try simp only [List.map_toArray, List.map_cons, List.map_nil]); first | done | rfl | (simp only [List.length_drop, List.length_take]; rfl)) ?_; (with_reducible refine (wide_Cmp.calls a1_0 a1_1 a0_0 a0_1 t277 _ A15.out).mono ?_); rintro e w144 ⟨rfl, hb⟩; refine ⟨_, rfl, ?_⟩; have n0_ := am (bb BK271 hb); have n1_ := am (bb BK272 hb); have n2_ := am (bb BK273 hb); have n3_ := am (below_step bz hb); clear BK271; clear BK272; clear BK273; clear HB; have BK271 := n0_; have BK272 := n1_; have BK273 := n2_; have HB := n3_; clear n0_ n1_ n2_ n3_; (try clear hb); (try clear hb2); (try clear hk); (try clear hi)))
                go_meet
                case rel => exact ⟨_, (false), (by first | rfl | (simp; done) | (simp [*]; done)), H', ⟨by first | omega | exact Nat.le_refl _⟩, ⟨by (with_reducible repeat (first | apply bA | apply bB | apply bC)); exact BK271.out⟩, ⟨by (with_reducible repeat (first | apply bA | apply bB | apply bC)); exact BK272.out⟩, ⟨by (with_reducible repeat (first | apply bA | apply bB | apply bC)); exact BK273.out⟩, ⟨by repeat (first | (with_reducible first | exact HB.out | apply dA | apply dB | apply dC | refine dE ?_ ‹_›) | exact HB.out)⟩⟩
            · rw [if_neg c131] at H
              have c131b0 : decide (t274 < 0) = false := decide_eq_false c131; clear c131; have H' := Aside0.mk H; clear H; have hnb145 := NB272_271.out; have hnc145 := NB271_272.out; have hnb146 := NB272_273.out; have hnc146 := NB273_272.out; have hcz147_0 : w14.cell? ⟨gb272, 0, none⟩ = some (.int .i64 a1_0) := (blk_cell BK272.out 0).trans rfl; have hcz147_1 : w14.cell? ⟨gb272, 1, none⟩ = some (.int .u64 a1_1) := (blk_cell BK272.out 1).trans rfl; have hfz147_0 := blk_frozen BK272.out 0; have hfz147_1 := blk_frozen BK272.out 1; have hnb148 := NB271_273.out; have hnc148 := NB273_271.out; have hcz149_0 : w14.cell? ⟨gb271, 0, none⟩ = some (.int .i64 a0_0) := (blk_cell BK271.out 0).trans rfl; have hcz149_1 : w14.cell? ⟨gb271, 1, none⟩ = some (.int .u64 a0_1) := (blk_cell BK271.out 1).trans rfl; have hfz149_0 := blk_frozen BK271.out 0; have hfz149_1 := blk_frozen BK271.out 1
              go_wp2_with (first | ((with_reducible refine gate_callee (f := 30) rfl ?_); refine goesL_ (some 25) rfl rfl Tryd.func30 (by kernel_rfl) rfl #[.agg #[.int .i64 a1_0, .int .u64 a1_1], .agg #[.int .i64 a0_0, .int .u64 a0_1]] rfl (by (try simp only [List.map_toArray, List.map_cons, List.map_nil]); first | done | rfl | (simp only [List.length_drop, List.length_take]; rfl)) ?_; (with_reducible refine (wide_Cmp.calls a1_0 a1_1 a0_0 a0_1 t277 _ A15.out).mono ?_); rintro e w150 ⟨rfl, hb⟩; refine ⟨_, rfl, ?_⟩; have n0_ := am (bb BK271 hb); have n1_ := am (bb BK272 hb); have n2_ := am (bb BK273 hb); have n3_ := am (below_step bz hb); clear BK271; clear BK272; clear BK273; clear HB; have BK271 := n0_; have BK272 := n1_; have BK273 := n2_; have HB := n3_; clear n0_ n1_ n2_ n3_; (try clear hb); (try clear hb2); (try clear hk); (try clear hi)))
              go_meet
              case rel => exact ⟨_, (false), (by first | rfl | (simp; done) | (simp [*]; done)), H', ⟨by first | omega | exact Nat.le_refl _⟩, ⟨by (with_reducible repeat (first | apply bA | apply bB | apply bC)); exact BK271.out⟩, ⟨by (with_reducible repeat (first | apply bA | apply bB | apply bC)); exact BK272.out⟩, ⟨by (with_reducible repeat (first | apply bA | apply bB | apply bC)); exact BK273.out⟩, ⟨by repeat (first | (with_reducible first | exact HB.out | apply dA | apply dB | apply dC | refine dE ?_ ‹_›) | exact HB.out)⟩⟩
        · rw [if_neg c123] at H
          have c123b0 : decide (0 ≤ t275) = false := decide_eq_false c123; clear c123
          by_cases c151 : t274 < 0
          · rw [if_pos c151] at H
            have c151b0 : decide (t274 < 0) = true := decide_eq_true c151; clear c151
            by_cases c152 : t275 ≤ 0
            · rw [if_pos c152] at H
              have c152b0 : decide (t275 ≤ 0) = true := decide_eq_true c152; clear c152; have H' := Aside0.mk H; clear H; have hnb153 := NB272_271.out; have hnc153 := NB271_272.out; have hnb154 := NB272_273.out; have hnc154 := NB273_272.out; have hcz155_0 : w14.cell? ⟨gb272, 0, none⟩ = some (.int .i64 a1_0) := (blk_cell BK272.out 0).trans rfl; have hcz155_1 : w14.cell? ⟨gb272, 1, none⟩ = some (.int .u64 a1_1) := (blk_cell BK272.out 1).trans rfl; have hfz155_0 := blk_frozen BK272.out 0; have hfz155_1 := blk_frozen BK272.out 1; have hnb156 := NB271_273.out; have hnc156 := NB273_271.out; have hcz157_0 : w14.cell? ⟨gb271, 0, none⟩ = some (.int .i64 a0_0) := (blk_cell BK271.out 0).trans rfl; have hcz157_1 : w14.cell? ⟨gb271, 1, none⟩ = some (.int .u64 a0_1) := (blk_cell BK271.out 1).trans rfl; have hfz157_0 := blk_frozen BK271.out 0; have hfz157_1 := blk_frozen BK271.out 1
              go_wp2_with (first | ((with_reducible refine gate_callee (f := 30) rfl ?_); refine goesL_ (some 25) rfl rfl Tryd.func30 (by kernel_rfl) rfl #[.agg #[.int .i64 a1_0, .int .u64 a1_1], .agg #[.int .i64 a0_0, .int .u64 a0_1]] rfl (by (try simp only [List.map_toArray, List.map_cons, List.map_nil]); first | done | rfl | (simp only [List.length_drop, List.length_take]; rfl)) ?_; (with_reducible refine (wide_Cmp.calls a1_0 a1_1 a0_0 a0_1 t277 _ A15.out).mono ?_); rintro e w158 ⟨rfl, hb⟩; refine ⟨_, rfl, ?_⟩; have n0_ := am (bb BK271 hb); have n1_ := am (bb BK272 hb); have n2_ := am (bb BK273 hb); have n3_ := am (below_step bz hb); clear BK271; clear BK272; clear BK273; clear HB; have BK271 := n0_; have BK272 := n1_; have BK273 := n2_; have HB := n3_; clear n0_ n1_ n2_ n3_; (try clear hb); (try clear hb2); (try clear hk); (try clear hi)))
              go_meet
              case rel => exact ⟨_, (decide (t276 ≥ 0)), (by first | rfl | (simp; done) | (simp [*]; done)), H', ⟨by first | omega | exact Nat.le_refl _⟩, ⟨by (with_reducible repeat (first | apply bA | apply bB | apply bC)); exact BK271.out⟩, ⟨by (with_reducible repeat (first | apply bA | apply bB | apply bC)); exact BK272.out⟩, ⟨by (with_reducible repeat (first | apply bA | apply bB | apply bC)); exact BK273.out⟩, ⟨by repeat (first | (with_reducible first | exact HB.out | apply dA | apply dB | apply dC | refine dE ?_ ‹_›) | exact HB.out)⟩⟩
            · rw [if_neg c152] at H
              have c152b0 : decide (t275 ≤ 0) = false := decide_eq_false c152; clear c152; have H' := Aside0.mk H; clear H; have hnb159 := NB272_271.out; have hnc159 := NB271_272.out; have hnb160 := NB272_273.out; have hnc160 := NB273_272.out; have hcz161_0 : w14.cell? ⟨gb272, 0, none⟩ = some (.int .i64 a1_0) := (blk_cell BK272.out 0).trans rfl; have hcz161_1 : w14.cell? ⟨gb272, 1, none⟩ = some (.int .u64 a1_1) := (blk_cell BK272.out 1).trans rfl; have hfz161_0 := blk_frozen BK272.out 0; have hfz161_1 := blk_frozen BK272.out 1; have hnb162 := NB271_273.out; have hnc162 := NB273_271.out; have hcz163_0 : w14.cell? ⟨gb271, 0, none⟩ = some (.int .i64 a0_0) := (blk_cell BK271.out 0).trans rfl; have hcz163_1 : w14.cell? ⟨gb271, 1, none⟩ = some (.int .u64 a0_1) := (blk_cell BK271.out 1).trans rfl; have hfz163_0 := blk_frozen BK271.out 0; have hfz163_1 := blk_frozen BK271.out 1
              go_wp2_with (first | ((with_reducible refine gate_callee (f := 30) rfl ?_); refine goesL_ (some 25) rfl rfl Tryd.func30 (by kernel_rfl) rfl #[.agg #[.int .i64 a1_0, .int .u64 a1_1], .agg #[.int .i64 a0_0, .int .u64 a0_1]] rfl (by (try simp only [List.map_toArray, List.map_cons, List.map_nil]); first | done | rfl | (simp only [List.length_drop, List.length_take]; rfl)) ?_; (with_reducible refine (wide_Cmp.calls a1_0 a1_1 a0_0 a0_1 t277 _ A15.out).mono ?_); rintro e w164 ⟨rfl, hb⟩; refine ⟨_, rfl, ?_⟩; have n0_ := am (bb BK271 hb); have n1_ := am (bb BK272 hb); have n2_ := am (bb BK273 hb); have n3_ := am (below_step bz hb); clear BK271; clear BK272; clear BK273; clear HB; have BK271 := n0_; have BK272 := n1_; have BK273 := n2_; have HB := n3_; clear n0_ n1_ n2_ n3_; (try clear hb); (try clear hb2); (try clear hk); (try clear hi)))
              go_meet
              case rel => exact ⟨_, (false), (by first | rfl | (simp; done) | (simp [*]; done)), H', ⟨by first | omega | exact Nat.le_refl _⟩, ⟨by (with_reducible repeat (first | apply bA | apply bB | apply bC)); exact BK271.out⟩, ⟨by (with_reducible repeat (first | apply bA | apply bB | apply bC)); exact BK272.out⟩, ⟨by (with_reducible repeat (first | apply bA | apply bB | apply bC)); exact BK273.out⟩, ⟨by repeat (first | (with_reducible first | exact HB.out | apply dA | apply dB | apply dC | refine dE ?_ ‹_›) | exact HB.out)⟩⟩
          · rw [if_neg c151] at H
            have c151b0 : decide (t274 < 0) = false := decide_eq_false c151; clear c151; have H' := Aside0.mk H; clear H; have hnb165 := NB272_271.out; have hnc165 := NB271_272.out; have hnb166 := NB272_273.out; have hnc166 := NB273_272.out; have hcz167_0 : w14.cell? ⟨gb272, 0, none⟩ = some (.int .i64 a1_0) := (blk_cell BK272.out 0).trans rfl; have hcz167_1 : w14.cell? ⟨gb272, 1, none⟩ = some (.int .u64 a1_1) := (blk_cell BK272.out 1).trans rfl; have hfz167_0 := blk_frozen BK272.out 0; have hfz167_1 := blk_frozen BK272.out 1; have hnb168 := NB271_273.out; have hnc168 := NB273_271.out; have hcz169_0 : w14.cell? ⟨gb271, 0, none⟩ = some (.int .i64 a0_0) := (blk_cell BK271.out 0).trans rfl; have hcz169_1 : w14.cell? ⟨gb271, 1, none⟩ = some (.int .u64 a0_1) := (blk_cell BK271.out 1).trans rfl; have hfz169_0 := blk_frozen BK271.out 0; have hfz169_1 := blk_frozen BK271.out 1
            go_wp2_with (first | ((with_reducible refine gate_callee (f := 30) rfl ?_); refine goesL_ (some 25) rfl rfl Tryd.func30 (by kernel_rfl) rfl #[.agg #[.int .i64 a1_0, .int .u64 a1_1], .agg #[.int .i64 a0_0, .int .u64 a0_1]] rfl (by (try simp only [List.map_toArray, List.map_cons, List.map_nil]); first | done | rfl | (simp only [List.length_drop, List.length_take]; rfl)) ?_; (with_reducible refine (wide_Cmp.calls a1_0 a1_1 a0_0 a0_1 t277 _ A15.out).mono ?_); rintro e w170 ⟨rfl, hb⟩; refine ⟨_, rfl, ?_⟩; have n0_ := am (bb BK271 hb); have n1_ := am (bb BK272 hb); have n2_ := am (bb BK273 hb); have n3_ := am (below_step bz hb); clear BK271; clear BK272; clear BK273; clear HB; have BK271 := n0_; have BK272 := n1_; have BK273 := n2_; have HB := n3_; clear n0_ n1_ n2_ n3_; (try clear hb); (try clear hb2); (try clear hk); (try clear hi)))
            go_meet
            case rel => exact ⟨_, (false), (by first | rfl | (simp; done) | (simp [*]; done)), H', ⟨by first | omega | exact Nat.le_refl _⟩, ⟨by (with_reducible repeat (first | apply bA | apply bB | apply bC)); exact BK271.out⟩, ⟨by (with_reducible repeat (first | apply bA | apply bB | apply bC)); exact BK272.out⟩, ⟨by (with_reducible repeat (first | apply bA | apply bB | apply bC)); exact BK273.out⟩, ⟨by repeat (first | (with_reducible first | exact HB.out | apply dA | apply dB | apply dC | refine dE ?_ ‹_›) | exact HB.out)⟩⟩
      · rw [if_neg c122] at H
        have c122b0 : decide (0 ≤ t274) = false := decide_eq_false c122; clear c122
        by_cases c171 : t274 < 0
        · rw [if_pos c171] at H
          have c171b0 : decide (t274 < 0) = true := decide_eq_true c171; clear c171
          by_cases c172 : t275 ≤ 0
          · rw [if_pos c172] at H
            have c172b0 : decide (t275 ≤ 0) = true := decide_eq_true c172; clear c172; have H' := Aside0.mk H; clear H; have hnb173 := NB272_271.out; have hnc173 := NB271_272.out; have hnb174 := NB272_273.out; have hnc174 := NB273_272.out; have hcz175_0 : w14.cell? ⟨gb272, 0, none⟩ = some (.int .i64 a1_0) := (blk_cell BK272.out 0).trans rfl; have hcz175_1 : w14.cell? ⟨gb272, 1, none⟩ = some (.int .u64 a1_1) := (blk_cell BK272.out 1).trans rfl; have hfz175_0 := blk_frozen BK272.out 0; have hfz175_1 := blk_frozen BK272.out 1; have hnb176 := NB271_273.out; have hnc176 := NB273_271.out; have hcz177_0 : w14.cell? ⟨gb271, 0, none⟩ = some (.int .i64 a0_0) := (blk_cell BK271.out 0).trans rfl; have hcz177_1 : w14.cell? ⟨gb271, 1, none⟩ = some (.int .u64 a0_1) := (blk_cell BK271.out 1).trans rfl; have hfz177_0 := blk_frozen BK271.out 0; have hfz177_1 := blk_frozen BK271.out 1
            go_wp2_with (first | ((with_reducible refine gate_callee (f := 30) rfl ?_); refine goesL_ (some 25) rfl rfl Tryd.func30 (by kernel_rfl) rfl #[.agg #[.int .i64 a1_0, .int .u64 a1_1], .agg #[.int .i64 a0_0, .int .u64 a0_1]] rfl (by (try simp only [List.map_toArray, List.map_cons, List.map_nil]); first | done | rfl | (simp only [List.length_drop, List.length_take]; rfl)) ?_; (with_reducible refine (wide_Cmp.calls a1_0 a1_1 a0_0 a0_1 t277 _ A15.out).mono ?_); rintro e w178 ⟨rfl, hb⟩; refine ⟨_, rfl, ?_⟩; have n0_ := am (bb BK271 hb); have n1_ := am (bb BK272 hb); have n2_ := am (bb BK273 hb); have n3_ := am (below_step bz hb); clear BK271; clear BK272; clear BK273; clear HB; have BK271 := n0_; have BK272 := n1_; have BK273 := n2_; have HB := n3_; clear n0_ n1_ n2_ n3_; (try clear hb); (try clear hb2); (try clear hk); (try clear hi)))
            go_meet
            case rel => exact ⟨_, (decide (t276 ≥ 0)), (by first | rfl | (simp; done) | (simp [*]; done)), H', ⟨by first | omega | exact Nat.le_refl _⟩, ⟨by (with_reducible repeat (first | apply bA | apply bB | apply bC)); exact BK271.out⟩, ⟨by (with_reducible repeat (first | apply bA | apply bB | apply bC)); exact BK272.out⟩, ⟨by (with_reducible repeat (first | apply bA | apply bB | apply bC)); exact BK273.out⟩, ⟨by repeat (first | (with_reducible first | exact HB.out | apply dA | apply dB | apply dC | refine dE ?_ ‹_›) | exact HB.out)⟩⟩
          · rw [if_neg c172] at H
            have c172b0 : decide (t275 ≤ 0) = false := decide_eq_false c172; clear c172; have H' := Aside0.mk H; clear H; have hnb179 := NB272_271.out; have hnc179 := NB271_272.out; have hnb180 := NB272_273.out; have hnc180 := NB273_272.out; have hcz181_0 : w14.cell? ⟨gb272, 0, none⟩ = some (.int .i64 a1_0) := (blk_cell BK272.out 0).trans rfl; have hcz181_1 : w14.cell? ⟨gb272, 1, none⟩ = some (.int .u64 a1_1) := (blk_cell BK272.out 1).trans rfl; have hfz181_0 := blk_frozen BK272.out 0; have hfz181_1 := blk_frozen BK272.out 1; have hnb182 := NB271_273.out; have hnc182 := NB273_271.out; have hcz183_0 : w14.cell? ⟨gb271, 0, none⟩ = some (.int .i64 a0_0) := (blk_cell BK271.out 0).trans rfl; have hcz183_1 : w14.cell? ⟨gb271, 1, none⟩ = some (.int .u64 a0_1) := (blk_cell BK271.out 1).trans rfl; have hfz183_0 := blk_frozen BK271.out 0; have hfz183_1 := blk_frozen BK271.out 1
            go_wp2_with (first | ((with_reducible refine gate_callee (f := 30) rfl ?_); refine goesL_ (some 25) rfl rfl Tryd.func30 (by kernel_rfl) rfl #[.agg #[.int .i64 a1_0, .int .u64 a1_1], .agg #[.int .i64 a0_0, .int .u64 a0_1]] rfl (by (try simp only [List.map_toArray, List.map_cons, List.map_nil]); first | done | rfl | (simp only [List.length_drop, List.length_take]; rfl)) ?_; (with_reducible refine (wide_Cmp.calls a1_0 a1_1 a0_0 a0_1 t277 _ A15.out).mono ?_); rintro e w184 ⟨rfl, hb⟩; refine ⟨_, rfl, ?_⟩; have n0_ := am (bb BK271 hb); have n1_ := am (bb BK272 hb); have n2_ := am (bb BK273 hb); have n3_ := am (below_step bz hb); clear BK271; clear BK272; clear BK273; clear HB; have BK271 := n0_; have BK272 := n1_; have BK273 := n2_; have HB := n3_; clear n0_ n1_ n2_ n3_; (try clear hb); (try clear hb2); (try clear hk); (try clear hi)))
            go_meet
            case rel => exact ⟨_, (false), (by first | rfl | (simp; done) | (simp [*]; done)), H', ⟨by first | omega | exact Nat.le_refl _⟩, ⟨by (with_reducible repeat (first | apply bA | apply bB | apply bC)); exact BK271.out⟩, ⟨by (with_reducible repeat (first | apply bA | apply bB | apply bC)); exact BK272.out⟩, ⟨by (with_reducible repeat (first | apply bA | apply bB | apply bC)); exact BK273.out⟩, ⟨by repeat (first | (with_reducible first | exact HB.out | apply dA | apply dB | apply dC | refine dE ?_ ‹_›) | exact HB.out)⟩⟩
        · rw [if_neg c171] at H
          have c171b0 : decide (t274 < 0) = false := decide_eq_false c171; clear c171; have H' := Aside0.mk H; clear H; have hnb185 := NB272_271.out; have hnc185 := NB271_272.out; have hnb186 := NB272_273.out; have hnc186 := NB273_272.out; have hcz187_0 : w14.cell? ⟨gb272, 0, none⟩ = some (.int .i64 a1_0) := (blk_cell BK272.out 0).trans rfl; have hcz187_1 : w14.cell? ⟨gb272, 1, none⟩ = some (.int .u64 a1_1) := (blk_cell BK272.out 1).trans rfl; have hfz187_0 := blk_frozen BK272.out 0; have hfz187_1 := blk_frozen BK272.out 1; have hnb188 := NB271_273.out; have hnc188 := NB273_271.out; have hcz189_0 : w14.cell? ⟨gb271, 0, none⟩ = some (.int .i64 a0_0) := (blk_cell BK271.out 0).trans rfl; have hcz189_1 : w14.cell? ⟨gb271, 1, none⟩ = some (.int .u64 a0_1) := (blk_cell BK271.out 1).trans rfl; have hfz189_0 := blk_frozen BK271.out 0; have hfz189_1 := blk_frozen BK271.out 1
          go_wp2_with (first | ((with_reducible refine gate_callee (f := 30) rfl ?_); refine goesL_ (some 25) rfl rfl Tryd.func30 (by kernel_rfl) rfl #[.agg #[.int .i64 a1_0, .int .u64 a1_1], .agg #[.int .i64 a0_0, .int .u64 a0_1]] rfl (by (try simp only [List.map_toArray, List.map_cons, List.map_nil]); first | done | rfl | (simp only [List.length_drop, List.length_take]; rfl)) ?_; (with_reducible refine (wide_Cmp.calls a1_0 a1_1 a0_0 a0_1 t277 _ A15.out).mono ?_); rintro e w190 ⟨rfl, hb⟩; refine ⟨_, rfl, ?_⟩; have n0_ := am (bb BK271 hb); have n1_ := am (bb BK272 hb); have n2_ := am (bb BK273 hb); have n3_ := am (below_step bz hb); clear BK271; clear BK272; clear BK273; clear HB; have BK271 := n0_; have BK272 := n1_; have BK273 := n2_; have HB := n3_; clear n0_ n1_ n2_ n3_; (try clear hb); (try clear hb2); (try clear hk); (try clear hi)))
          go_meet
          case rel => exact ⟨_, (false), (by first | rfl | (simp; done) | (simp [*]; done)), H', ⟨by first | omega | exact Nat.le_refl _⟩, ⟨by (with_reducible repeat (first | apply bA | apply bB | apply bC)); exact BK271.out⟩, ⟨by (with_reducible repeat (first | apply bA | apply bB | apply bC)); exact BK272.out⟩, ⟨by (with_reducible repeat (first | apply bA | apply bB | apply bC)); exact BK273.out⟩, ⟨by repeat (first | (with_reducible first | exact HB.out | apply dA | apply dB | apply dC | refine dE ?_ ‹_›) | exact HB.out)⟩⟩
  · rw [if_neg c16] at H
    have c16b0 : (t277 == (wrap64 (-t274))) = false := beq_eq_false_iff_ne.mpr c16; have c16b1 : (t277 != (wrap64 (-t274))) = true := bne_iff_ne.mpr c16
    (first | rw [c16b0] | (simp only [i64_w, i32_w]; rw [c16b0]) | skip)
    have H' := Aside0.mk H; clear H; have hnb191 := NB272_271.out; have hnc191 := NB271_272.out; have hnb192 := NB272_273.out; have hnc192 := NB273_272.out; have hcz193_0 : w14.cell? ⟨gb272, 0, none⟩ = some (.int .i64 a1_0) := (blk_cell BK272.out 0).trans rfl; have hcz193_1 : w14.cell? ⟨gb272, 1, none⟩ = some (.int .u64 a1_1) := (blk_cell BK272.out 1).trans rfl; have hfz193_0 := blk_frozen BK272.out 0; have hfz193_1 := blk_frozen BK272.out 1; have hnb194 := NB271_273.out; have hnc194 := NB273_271.out; have hcz195_0 : w14.cell? ⟨gb271, 0, none⟩ = some (.int .i64 a0_0) := (blk_cell BK271.out 0).trans rfl; have hcz195_1 : w14.cell? ⟨gb271, 1, none⟩ = some (.int .u64 a0_1) := (blk_cell BK271.out 1).trans rfl; have hfz195_0 := blk_frozen BK271.out 0; have hfz195_1 := blk_frozen BK271.out 1
    go_wp2_with (first | ((with_reducible refine gate_callee (f := 30) rfl ?_); refine goesL_ (some 25) rfl rfl Tryd.func30 (by kernel_rfl) rfl #[.agg #[.int .i64 a1_0, .int .u64 a1_1], .agg #[.int .i64 a0_0, .int .u64 a0_1]] rfl (by (try simp only [List.map_toArray, List.map_cons, List.map_nil]); first | done | rfl | (simp only [List.length_drop, List.length_take]; rfl)) ?_; (with_reducible refine (wide_Cmp.calls a1_0 a1_1 a0_0 a0_1 t277 _ A15.out).mono ?_); rintro e w196 ⟨rfl, hb⟩; refine ⟨_, rfl, ?_⟩; have n0_ := am (bb BK271 hb); have n1_ := am (bb BK272 hb); have n2_ := am (bb BK273 hb); have n3_ := am (below_step bz hb); clear BK271; clear BK272; clear BK273; clear HB; have BK271 := n0_; have BK272 := n1_; have BK273 := n2_; have HB := n3_; clear n0_ n1_ n2_ n3_; (try clear hb); (try clear hb2); (try clear hk); (try clear hi)))
    go_meet
    case rel => exact ⟨_, (true), (by first | rfl | (simp; done) | (simp [*]; done)), H', ⟨by first | omega | exact Nat.le_refl _⟩, ⟨by (with_reducible repeat (first | apply bA | apply bB | apply bC)); exact BK271.out⟩, ⟨by (with_reducible repeat (first | apply bA | apply bB | apply bC)); exact BK272.out⟩, ⟨by (with_reducible repeat (first | apply bA | apply bB | apply bC)); exact BK273.out⟩, ⟨by repeat (first | (with_reducible first | exact HB.out | apply dA | apply dB | apply dC | refine dE ?_ ‹_›) | exact HB.out)⟩⟩
 case rest =>
  clear HC7
  try clear c1
  try clear c2
  try clear p2
  try clear c3
  try clear c4
  try clear c5
  try clear c6
  try clear p6
  try clear c7
  try clear c8
  try clear c9
  try clear c10
  try clear c11
  try clear c12
  try clear c13
  try clear c14
  try clear c15
  try clear c16
  try clear c16b0
  try clear c16b1
  try clear c17
  try clear c17b0
  try clear c18
  try clear c18b0
  try clear c19
  try clear c26
  try clear c26b0
  try clear c27
  try clear c27b0
  try clear c30
  try clear c35
  try clear c35b0
  try clear c36
  try clear c37
  try clear c39
  try clear c42
  try clear c43
  try clear c45
  try clear c48
  try clear c48b0
  try clear c49
  try clear c50
  try clear c52
  try clear c55
  try clear c56
  try clear c58
  try clear c61
  try clear c61b0
  try clear c62
  try clear c63
  try clear p64
  try clear c65
  try clear c68
  try clear c69
  try clear c71
  try clear c74
  try clear c74b0
  try clear c75
  try clear c75b0
  try clear c76
  try clear c76b0
  try clear c77
  try clear c78
  try clear c80
  try clear c83
  try clear c83b0
  try clear c84
  try clear c85
  try clear c87
  try clear c90
  try clear c91
  try clear c93
  try clear c96
  try clear c96b0
  try clear c97
  try clear c98
  try clear c100
  try clear c103
  try clear c104
  try clear c106
  try clear c109
  try clear c109b0
  try clear c110
  try clear c111
  try clear c113
  try clear c116
  try clear c117
  try clear c119
  try clear c122
  try clear c122b0
  try clear c123
  try clear c123b0
  try clear c124
  try clear c124b0
  try clear c125
  try clear c126
  try clear c128
  try clear c131
  try clear c131b0
  try clear c132
  try clear c132b0
  try clear c133
  try clear c134
  try clear c136
  try clear c139
  try clear c140
  try clear c142
  try clear c145
  try clear c146
  try clear c148
  try clear c151
  try clear c151b0
  try clear c152
  try clear c152b0
  try clear c153
  try clear c154
  try clear c156
  try clear c159
  try clear c160
  try clear c162
  try clear c165
  try clear c166
  try clear c168
  try clear c171
  try clear c171b0
  try clear c172
  try clear c172b0
  try clear c173
  try clear c174
  try clear c176
  try clear c179
  try clear c180
  try clear c182
  try clear c185
  try clear c186
  try clear c188
  try clear c191
  try clear c192
  try clear c194
  try clear hcz101_0
  try clear hcz101_1
  try clear hcz105_0
  try clear hcz105_1
  try clear hcz107_0
  try clear hcz107_1
  try clear hcz112_0
  try clear hcz112_1
  try clear hcz114_0
  try clear hcz114_1
  try clear hcz118_0
  try clear hcz118_1
  try clear hcz120_0
  try clear hcz120_1
  try clear hcz127_0
  try clear hcz127_1
  try clear hcz129_0
  try clear hcz129_1
  try clear hcz135_0
  try clear hcz135_1
  try clear hcz137_0
  try clear hcz137_1
  try clear hcz141_0
  try clear hcz141_1
  try clear hcz143_0
  try clear hcz143_1
  try clear hcz147_0
  try clear hcz147_1
  try clear hcz149_0
  try clear hcz149_1
  try clear hcz155_0
  try clear hcz155_1
  try clear hcz157_0
  try clear hcz157_1
  try clear hcz161_0
  try clear hcz161_1
  try clear hcz163_0
  try clear hcz163_1
  try clear hcz167_0
  try clear hcz167_1
  try clear hcz169_0
  try clear hcz169_1
  try clear hcz175_0
  try clear hcz175_1
  try clear hcz177_0
  try clear hcz177_1
  try clear hcz181_0
  try clear hcz181_1
  try clear hcz183_0
  try clear hcz183_1
  try clear hcz187_0
  try clear hcz187_1
  try clear hcz189_0
  try clear hcz189_1
  try clear hcz193_0
  try clear hcz193_1
  try clear hcz195_0
  try clear hcz195_1
  try clear hcz38_0
  try clear hcz38_1
  try clear hcz40_0
  try clear hcz40_1
  try clear hcz44_0
  try clear hcz44_1
  try clear hcz46_0
  try clear hcz46_1
  try clear hcz51_0
  try clear hcz51_1
  try clear hcz53_0
  try clear hcz53_1
  try clear hcz57_0
  try clear hcz57_1
  try clear hcz59_0
  try clear hcz59_1
  try clear hcz64_0
  try clear hcz64_1
  try clear hcz66_0
  try clear hcz66_1
  try clear hcz70_0
  try clear hcz70_1
  try clear hcz72_0
  try clear hcz72_1
  try clear hcz79_0
  try clear hcz79_1
  try clear hcz81_0
  try clear hcz81_1
  try clear hcz86_0
  try clear hcz86_1
  try clear hcz88_0
  try clear hcz88_1
  try clear hcz92_0
  try clear hcz92_1
  try clear hcz94_0
  try clear hcz94_1
  try clear hcz99_0
  try clear hcz99_1
  try clear hfz101_0
  try clear hfz101_1
  try clear hfz105_0
  try clear hfz105_1
  try clear hfz107_0
  try clear hfz107_1
  try clear hfz112_0
  try clear hfz112_1
  try clear hfz114_0
  try clear hfz114_1
  try clear hfz118_0
  try clear hfz118_1
  try clear hfz120_0
  try clear hfz120_1
  try clear hfz127_0
  try clear hfz127_1
  try clear hfz129_0
  try clear hfz129_1
  try clear hfz135_0
  try clear hfz135_1
  try clear hfz137_0
  try clear hfz137_1
  try clear hfz141_0
  try clear hfz141_1
  try clear hfz143_0
  try clear hfz143_1
  try clear hfz147_0
  try clear hfz147_1
  try clear hfz149_0
  try clear hfz149_1
  try clear hfz155_0
  try clear hfz155_1
  try clear hfz157_0
  try clear hfz157_1
  try clear hfz161_0
  try clear hfz161_1
  try clear hfz163_0
  try clear hfz163_1
  try clear hfz167_0
  try clear hfz167_1
  try clear hfz169_0
  try clear hfz169_1
  try clear hfz175_0
  try clear hfz175_1
  try clear hfz177_0
  try clear hfz177_1
  try clear hfz181_0
  try clear hfz181_1
  try clear hfz183_0
  try clear hfz183_1
  try clear hfz187_0
  try clear hfz187_1
  try clear hfz189_0
  try clear hfz189_1
  try clear hfz193_0
  try clear hfz193_1
  try clear hfz195_0
  try clear hfz195_1
  try clear hfz38_0
  try clear hfz38_1
  try clear hfz40_0
  try clear hfz40_1
  try clear hfz44_0
  try clear hfz44_1
  try clear hfz46_0
  try clear hfz46_1
  try clear hfz51_0
  try clear hfz51_1
  try clear hfz53_0
  try clear hfz53_1
  try clear hfz57_0
  try clear hfz57_1
  try clear hfz59_0
  try clear hfz59_1
  try clear hfz64_0
  try clear hfz64_1
  try clear hfz66_0
  try clear hfz66_1
  try clear hfz70_0
  try clear hfz70_1
  try clear hfz72_0
  try clear hfz72_1
  try clear hfz79_0
  try clear hfz79_1
  try clear hfz81_0
  try clear hfz81_1
  try clear hfz86_0
  try clear hfz86_1
  try clear hfz88_0
  try clear hfz88_1
  try clear hfz92_0
  try clear hfz92_1
  try clear hfz94_0
  try clear hfz94_1
  try clear hfz99_0
  try clear hfz99_1
  obtain ⟨kq, x64_6, rfl, HA, HJ6, BK271, BK272, BK273, HB⟩ := hcut
  cases kq with
  | zero => exact absurd HA.out (by simp [tumblerlaw01_WideOrders.j0])
  | succ kj6 =>
   have H := HA.out; clear HA
   simp only [tumblerlaw01_WideOrders.j0] at H
   by_cases c197 : x64_6 = true
   · subst c197
     have H1 : (some false) = some r := by rw [if_pos rfl] at H; exact H
     clear H; have H := H1; clear H1
     exact Bool.noConfusion ((Option.some.inj H).trans hr_.out)
   · replace c197 := Bool.eq_false_iff.mpr c197
     subst c197
     have H1 : ((wide_Add.f a0_0 a0_1 a2_0 a2_1).bind fun bt278 => ((wide_Add.f a1_0 a1_1 a2_0 a2_1).bind fun bt282 => (if bt278.2.2 = 0 then (if bt282.2.2 = 0 then ((wide_Cmp.f bt278.1 bt278.2.1 bt282.1 bt282.2.1).bind fun t286 => (if t286 = t274 then ((tumblerlaw01_alive.f kj6).bind fun t287 => (some t287)) else (some false))) else ((tumblerlaw01_alive.f kj6).bind fun t288 => (some t288))) else ((tumblerlaw01_alive.f kj6).bind fun t289 => (some t289))))) = some r := by rw [if_neg (show ¬ (false = true) by decide)] at H; exact H
     clear H; have H := H1; clear H1
     replace H := Option.bind_eq_some_iff.mp H
     obtain ⟨⟨t278, t279, t280⟩, A1980, H⟩ := H
     replace H : ((wide_Add.f a1_0 a1_1 a2_0 a2_1).bind fun bt282 => (if t280 = 0 then (if bt282.2.2 = 0 then ((wide_Cmp.f t278 t279 bt282.1 bt282.2.1).bind fun t286 => (if t286 = t274 then ((tumblerlaw01_alive.f kj6).bind fun t287 => (some t287)) else (some false))) else ((tumblerlaw01_alive.f kj6).bind fun t288 => (some t288))) else ((tumblerlaw01_alive.f kj6).bind fun t289 => (some t289)))) = some r := H
     have A198 := Aside0.mk A1980; clear A1980
     replace H := Option.bind_eq_some_iff.mp H
     obtain ⟨⟨t282, t283, t284⟩, A1990, H⟩ := H
     replace H : (if t280 = 0 then (if t284 = 0 then ((wide_Cmp.f t278 t279 t282 t283).bind fun t286 => (if t286 = t274 then ((tumblerlaw01_alive.f kj6).bind fun t287 => (some t287)) else (some false))) else ((tumblerlaw01_alive.f kj6).bind fun t288 => (some t288))) else ((tumblerlaw01_alive.f kj6).bind fun t289 => (some t289))) = some r := H
     have A199 := Aside0.mk A1990; clear A1990
     by_cases c200 : t280 = 0
     · rw [if_pos c200] at H
       have c200b0 : (t280 == 0) = true := beq_iff_eq.mpr c200; have c200b1 : (t280 != 0) = false := bne_eq_false_iff_eq.mpr c200; clear c200
       by_cases c201 : t284 = 0
       · rw [if_pos c201] at H
         have c201b0 : (t284 == 0) = true := beq_iff_eq.mpr c201; have c201b1 : (t284 != 0) = false := bne_eq_false_iff_eq.mpr c201; clear c201
         replace H := Option.bind_eq_some_iff.mp H
         obtain ⟨t286, A2020, H⟩ := H
         replace H : (if t286 = t274 then ((tumblerlaw01_alive.f kj6).bind fun t287 => (some t287)) else (some false)) = some r := H
         have A202 := Aside0.mk A2020; clear A2020
         by_cases c203 : t286 = t274
         · rw [if_pos c203] at H
           have c203b0 : (t286 == t274) = true := beq_iff_eq.mpr c203; have c203b1 : (t286 != t274) = false := bne_eq_false_iff_eq.mpr c203; clear c203
           replace H := Option.bind_eq_some_iff.mp H
           obtain ⟨t287, A2040, H⟩ := H
           replace H : (some t287) = some r := H
           have A204 := Aside0.mk A2040; clear A2040
           obtain rfl := Option.some.inj H
           have hnb205 := NB271_272.out; have hnc205 := NB272_271.out; have hnb206 := NB271_273.out; have hnc206 := NB273_271.out; have hcz207_0 : wc.cell? ⟨gb271, 0, none⟩ = some (.int .i64 a0_0) := (blk_cell BK271.out 0).trans rfl; have hcz207_1 : wc.cell? ⟨gb271, 1, none⟩ = some (.int .u64 a0_1) := (blk_cell BK271.out 1).trans rfl; have hfz207_0 := blk_frozen BK271.out 0; have hfz207_1 := blk_frozen BK271.out 1; have hnb208 := NB273_272.out; have hnc208 := NB272_273.out; have hcz209_0 : wc.cell? ⟨gb273, 0, none⟩ = some (.int .i64 a2_0) := (blk_cell BK273.out 0).trans rfl; have hcz209_1 : wc.cell? ⟨gb273, 1, none⟩ = some (.int .u64 a2_1) := (blk_cell BK273.out 1).trans rfl; have hfz209_0 := blk_frozen BK273.out 0; have hfz209_1 := blk_frozen BK273.out 1
           go_wp2_with (first | ((with_reducible refine gate_callee (f := 31) rfl ?_); refine goesL_ (some 68) rfl rfl Tryd.func31 (by kernel_rfl) rfl #[.agg #[.int .i64 a0_0, .int .u64 a0_1], .agg #[.int .i64 a2_0, .int .u64 a2_1]] rfl (by (try simp only [List.map_toArray, List.map_cons, List.map_nil]); first | done | rfl | (simp only [List.length_drop, List.length_take]; rfl)) ?_; (with_reducible refine (wide_Add.calls a0_0 a0_1 a2_0 a2_1 t278 t279 t280 _ A198.out).mono ?_); rintro e w210 ⟨rfl, hb⟩; refine ⟨_, rfl, ?_⟩; have n0_ := am (bb BK271 hb); have n1_ := am (bb BK272 hb); have n2_ := am (bb BK273 hb); have n3_ := am (below_step bz hb); clear BK271; clear BK272; clear BK273; clear HB; have BK271 := n0_; have BK272 := n1_; have BK273 := n2_; have HB := n3_; clear n0_ n1_ n2_ n3_; (try clear hb); (try clear hb2); (try clear hk); (try clear hi)) | ((with_reducible refine gate_dst (N := 10) rfl ?_); refine box_event ?hg (N := 10) ?hd (cs := #[.int .i64 0, .int .u64 0]) (t := 24) ?hr ?_; (case hd => rfl); (case hg => rfl); (case hr => first | (go_simp; done) | (go_simp; rfl)); intro gb281 hg w211 hbox hb; have n0_ := am (bb BK271 hb); have n1_ := am (bb BK272 hb); have n2_ := am (bb BK273 hb); have n3_ := am (below_step bz hb); have n4_ := am (hbox); have n5_ := am ((by rw [hg]; exact (below_size bz) : w.heap.size ≤ gb281)); have n6_ := am ((by rw [hg]; exact (below_size bz) : w.heap.size ≤ gb281)); have n7_ := am ((by rw [hg]; exact Nat.ne_of_lt (bl BK271) : gb271 ≠ gb281)); have n8_ := am ((by rw [hg]; exact Nat.ne_of_gt (bl BK271) : gb281 ≠ gb271)); have n9_ := am ((by rw [hg]; exact Nat.ne_of_lt (bl BK272) : gb272 ≠ gb281)); have n10_ := am ((by rw [hg]; exact Nat.ne_of_gt (bl BK272) : gb281 ≠ gb272)); have n11_ := am ((by rw [hg]; exact Nat.ne_of_lt (bl BK273) : gb273 ≠ gb281)); have n12_ := am ((by rw [hg]; exact Nat.ne_of_gt (bl BK273) : gb281 ≠ gb273)); clear BK271; clear BK272; clear BK273; clear HB; have BK271 := n0_; have BK272 := n1_; have BK273 := n2_; have HB := n3_; have BK281 := n4_; have GW281 := n5_; have GE281 := n6_; have NB271_281 := n7_; have NB281_271 := n8_; have NB272_281 := n9_; have NB281_272 := n10_; have NB273_281 := n11_; have NB281_273 := n12_; clear n0_ n1_ n2_ n3_ n4_ n5_ n6_ n7_ n8_ n9_ n10_ n11_ n12_; clear hb hbox hg; have hnb212 := NB281_271.out; have hnc212 := NB271_281.out; have hnb213 := NB281_272.out; have hnc213 := NB272_281.out; have hnb214 := NB281_273.out; have hnc214 := NB273_281.out; have hcz215_0 : w211.cell? ⟨gb281, 0, none⟩ = some (.int .i64 0) := (blk_cell BK281.out 0).trans rfl; have hcz215_1 : w211.cell? ⟨gb281, 1, none⟩ = some (.int .u64 0) := (blk_cell BK281.out 1).trans rfl; have hfz215_0 := blk_frozen BK281.out 0; have hfz215_1 := blk_frozen BK281.out 1; have hcz216_0 : w211.cell? ⟨gb272, 0, none⟩ = some (.int .i64 a1_0) := (blk_cell BK272.out 0).trans rfl; have hcz216_1 : w211.cell? ⟨gb272, 1, none⟩ = some (.int .u64 a1_1) := (blk_cell BK272.out 1).trans rfl; have hfz216_0 := blk_frozen BK272.out 0; have hfz216_1 := blk_frozen BK272.out 1; have hcz217_0 : w211.cell? ⟨gb273, 0, none⟩ = some (.int .i64 a2_0) := (blk_cell BK273.out 0).trans rfl; have hcz217_1 : w211.cell? ⟨gb273, 1, none⟩ = some (.int .u64 a2_1) := (blk_cell BK273.out 1).trans rfl; have hfz217_0 := blk_frozen BK273.out 0; have hfz217_1 := blk_frozen BK273.out 1) | ((with_reducible refine gate_callee (f := 31) rfl ?_); refine goesL_ (some 74) rfl rfl Tryd.func31 (by kernel_rfl) rfl #[.agg #[.int .i64 a1_0, .int .u64 a1_1], .agg #[.int .i64 a2_0, .int .u64 a2_1]] rfl (by (try simp only [List.map_toArray, List.map_cons, List.map_nil]); first | done | rfl | (simp only [List.length_drop, List.length_take]; rfl)) ?_; (with_reducible refine (wide_Add.calls a1_0 a1_1 a2_0 a2_1 t282 t283 t284 _ A199.out).mono ?_); rintro e w218 ⟨rfl, hb⟩; refine ⟨_, rfl, ?_⟩; have n0_ := am (blk_below (g := gb271) (o := .cells #[.int .i64 a0_0, .int .u64 a0_1] 24 (0, 0)) (by (with_reducible repeat (first | apply bA | apply bB | apply bC)); refine blk_far ?_ NB271_281.out _; (with_reducible repeat (first | apply bA | apply bB | apply bC)); refine blk_far ?_ NB271_281.out _; (with_reducible repeat (first | apply bA | apply bB | apply bC)); exact BK271.out) hb); have n1_ := am (blk_below (g := gb272) (o := .cells #[.int .i64 a1_0, .int .u64 a1_1] 24 (0, 0)) (by (with_reducible repeat (first | apply bA | apply bB | apply bC)); refine blk_far ?_ NB272_281.out _; (with_reducible repeat (first | apply bA | apply bB | apply bC)); refine blk_far ?_ NB272_281.out _; (with_reducible repeat (first | apply bA | apply bB | apply bC)); exact BK272.out) hb); have n2_ := am (blk_below (g := gb273) (o := .cells #[.int .i64 a2_0, .int .u64 a2_1] 24 (0, 0)) (by (with_reducible repeat (first | apply bA | apply bB | apply bC)); refine blk_far ?_ NB273_281.out _; (with_reducible repeat (first | apply bA | apply bB | apply bC)); refine blk_far ?_ NB273_281.out _; (with_reducible repeat (first | apply bA | apply bB | apply bC)); exact BK273.out) hb); have n3_ := am (blk_below (g := gb281) (o := .cells #[.int .i64 t278, .int .u64 t279] 24 (0, 0)) (by (with_reducible repeat (first | apply bA | apply bB | apply bC)); refine blk_put (cs := #[.int .i64 t278, .int .u64 0]) ?_ 1 _ rfl; (with_reducible repeat (first | apply bA | apply bB | apply bC)); refine blk_put (cs := #[.int .i64 0, .int .u64 0]) ?_ 0 _ rfl; (with_reducible repeat (first | apply bA | apply bB | apply bC)); exact BK281.out) hb); have n4_ := am (below_step bz hb); clear BK271; clear BK272; clear BK273; clear BK281; clear HB; have BK271 := n0_; have BK272 := n1_; have BK273 := n2_; have BK281 := n3_; have HB := n4_; clear n0_ n1_ n2_ n3_ n4_; (try clear hb); (try clear hb2); (try clear hk); (try clear hi)) | ((with_reducible refine gate_dst (N := 12) rfl ?_); refine box_event ?hg (N := 12) ?hd (cs := #[.int .i64 0, .int .u64 0]) (t := 24) ?hr ?_; (case hd => rfl); (case hg => rfl); (case hr => first | (go_simp; done) | (go_simp; rfl)); intro gb285 hg w219 hbox hb; have n0_ := am (bb BK271 hb); have n1_ := am (bb BK272 hb); have n2_ := am (bb BK273 hb); have n3_ := am (bb BK281 hb); have n4_ := am (below_step bz hb); have n5_ := am (hbox); have n6_ := am ((by rw [hg]; exact (below_size bz) : w.heap.size ≤ gb285)); have n7_ := am ((by rw [hg]; exact (below_size bz) : w.heap.size ≤ gb285)); have n8_ := am ((by rw [hg]; exact Nat.ne_of_lt (bl BK271) : gb271 ≠ gb285)); have n9_ := am ((by rw [hg]; exact Nat.ne_of_gt (bl BK271) : gb285 ≠ gb271)); have n10_ := am ((by rw [hg]; exact Nat.ne_of_lt (bl BK272) : gb272 ≠ gb285)); have n11_ := am ((by rw [hg]; exact Nat.ne_of_gt (bl BK272) : gb285 ≠ gb272)); have n12_ := am ((by rw [hg]; exact Nat.ne_of_lt (bl BK273) : gb273 ≠ gb285)); have n13_ := am ((by rw [hg]; exact Nat.ne_of_gt (bl BK273) : gb285 ≠ gb273)); have n14_ := am ((by rw [hg]; exact Nat.ne_of_lt (bl BK281) : gb281 ≠ gb285)); have n15_ := am ((by rw [hg]; exact Nat.ne_of_gt (bl BK281) : gb285 ≠ gb281)); clear BK271; clear BK272; clear BK273; clear BK281; clear HB; have BK271 := n0_; have BK272 := n1_; have BK273 := n2_; have BK281 := n3_; have HB := n4_; have BK285 := n5_; have GW285 := n6_; have GE285 := n7_; have NB271_285 := n8_; have NB285_271 := n9_; have NB272_285 := n10_; have NB285_272 := n11_; have NB273_285 := n12_; have NB285_273 := n13_; have NB281_285 := n14_; have NB285_281 := n15_; clear n0_ n1_ n2_ n3_ n4_ n5_ n6_ n7_ n8_ n9_ n10_ n11_ n12_ n13_ n14_ n15_; clear hb hbox hg; have hnb220 := NB285_271.out; have hnc220 := NB271_285.out; have hnb221 := NB285_272.out; have hnc221 := NB272_285.out; have hnb222 := NB285_273.out; have hnc222 := NB273_285.out; have hnb223 := NB285_281.out; have hnc223 := NB281_285.out; have hcz224_0 : w219.cell? ⟨gb285, 0, none⟩ = some (.int .i64 0) := (blk_cell BK285.out 0).trans rfl; have hcz224_1 : w219.cell? ⟨gb285, 1, none⟩ = some (.int .u64 0) := (blk_cell BK285.out 1).trans rfl; have hfz224_0 := blk_frozen BK285.out 0; have hfz224_1 := blk_frozen BK285.out 1; have hcz225_0 : w219.cell? ⟨gb281, 0, none⟩ = some (.int .i64 t278) := (blk_cell BK281.out 0).trans rfl; have hcz225_1 : w219.cell? ⟨gb281, 1, none⟩ = some (.int .u64 t279) := (blk_cell BK281.out 1).trans rfl; have hfz225_0 := blk_frozen BK281.out 0; have hfz225_1 := blk_frozen BK281.out 1) | (go_at_call 30; (with_reducible refine (wide_Cmp.calls t278 t279 t282 t283 t286 _ A202.out).mono ?_); rintro e w226 ⟨rfl, hb⟩; have n0_ := am (blk_below (g := gb271) (o := .cells #[.int .i64 a0_0, .int .u64 a0_1] 24 (0, 0)) (by (with_reducible repeat (first | apply bA | apply bB | apply bC)); refine blk_far ?_ NB271_285.out _; (with_reducible repeat (first | apply bA | apply bB | apply bC)); refine blk_far ?_ NB271_285.out _; (with_reducible repeat (first | apply bA | apply bB | apply bC)); exact BK271.out) hb); have n1_ := am (blk_below (g := gb272) (o := .cells #[.int .i64 a1_0, .int .u64 a1_1] 24 (0, 0)) (by (with_reducible repeat (first | apply bA | apply bB | apply bC)); refine blk_far ?_ NB272_285.out _; (with_reducible repeat (first | apply bA | apply bB | apply bC)); refine blk_far ?_ NB272_285.out _; (with_reducible repeat (first | apply bA | apply bB | apply bC)); exact BK272.out) hb); have n2_ := am (blk_below (g := gb273) (o := .cells #[.int .i64 a2_0, .int .u64 a2_1] 24 (0, 0)) (by (with_reducible repeat (first | apply bA | apply bB | apply bC)); refine blk_far ?_ NB273_285.out _; (with_reducible repeat (first | apply bA | apply bB | apply bC)); refine blk_far ?_ NB273_285.out _; (with_reducible repeat (first | apply bA | apply bB | apply bC)); exact BK273.out) hb); have n3_ := am (blk_below (g := gb281) (o := .cells #[.int .i64 t278, .int .u64 t279] 24 (0, 0)) (by (with_reducible repeat (first | apply bA | apply bB | apply bC)); refine blk_far ?_ NB281_285.out _; (with_reducible repeat (first | apply bA | apply bB | apply bC)); refine blk_far ?_ NB281_285.out _; (with_reducible repeat (first | apply bA | apply bB | apply bC)); exact BK281.out) hb); have n4_ := am (blk_below (g := gb285) (o := .cells #[.int .i64 t282, .int .u64 t283] 24 (0, 0)) (by (with_reducible repeat (first | apply bA | apply bB | apply bC)); refine blk_put (cs := #[.int .i64 t282, .int .u64 0]) ?_ 1 _ rfl; (with_reducible repeat (first | apply bA | apply bB | apply bC)); refine blk_put (cs := #[.int .i64 0, .int .u64 0]) ?_ 0 _ rfl; (with_reducible repeat (first | apply bA | apply bB | apply bC)); exact BK285.out) hb); have n5_ := am (below_step bz hb); clear BK271; clear BK272; clear BK273; clear BK281; clear BK285; clear HB; have BK271 := n0_; have BK272 := n1_; have BK273 := n2_; have BK281 := n3_; have BK285 := n4_; have HB := n5_; clear n0_ n1_ n2_ n3_ n4_ n5_; (try clear hb); (try clear hb2); (try clear hk); (try clear hi)) | (go_at_call 29; (with_reducible refine (tumblerlaw01_alive.calls kj6  t287 _ (tN hT) A204.out).mono ?_); rintro e w227 ⟨rfl, hb⟩; have n0_ := am (bb BK271 hb); have n1_ := am (bb BK272 hb); have n2_ := am (bb BK273 hb); have n3_ := am (bb BK281 hb); have n4_ := am (bb BK285 hb); have n5_ := am (below_step bz hb); clear BK271; clear BK272; clear BK273; clear BK281; clear BK285; clear HB; have BK271 := n0_; have BK272 := n1_; have BK273 := n2_; have BK281 := n3_; have BK285 := n4_; have HB := n5_; clear n0_ n1_ n2_ n3_ n4_ n5_; (try clear hb); (try clear hb2); (try clear hk); (try clear hi)))
           go_ret
           exact ⟨by first | rfl | (simp [errW_none, errW_some] <;> rfl) | (simp [*, errW_none, errW_some] <;> rfl), by repeat (first | (with_reducible first | exact HB.out | apply dA | apply dB | apply dC | refine dE ?_ ‹_›) | exact HB.out)⟩
         · rw [if_neg c203] at H
           have c203b0 : (t286 == t274) = false := beq_eq_false_iff_ne.mpr c203; have c203b1 : (t286 != t274) = true := bne_iff_ne.mpr c203
           exact Bool.noConfusion ((Option.some.inj H).trans hr_.out)
       · rw [if_neg c201] at H
         have c201b0 : (t284 == 0) = false := beq_eq_false_iff_ne.mpr c201; have c201b1 : (t284 != 0) = true := bne_iff_ne.mpr c201
         replace H := Option.bind_eq_some_iff.mp H
         obtain ⟨t288, A2280, H⟩ := H
         replace H : (some t288) = some r := H
         have A228 := Aside0.mk A2280; clear A2280
         obtain rfl := Option.some.inj H
         have hnb229 := NB271_272.out; have hnc229 := NB272_271.out; have hnb230 := NB271_273.out; have hnc230 := NB273_271.out; have hcz231_0 : wc.cell? ⟨gb271, 0, none⟩ = some (.int .i64 a0_0) := (blk_cell BK271.out 0).trans rfl; have hcz231_1 : wc.cell? ⟨gb271, 1, none⟩ = some (.int .u64 a0_1) := (blk_cell BK271.out 1).trans rfl; have hfz231_0 := blk_frozen BK271.out 0; have hfz231_1 := blk_frozen BK271.out 1; have hnb232 := NB273_272.out; have hnc232 := NB272_273.out; have hcz233_0 : wc.cell? ⟨gb273, 0, none⟩ = some (.int .i64 a2_0) := (blk_cell BK273.out 0).trans rfl; have hcz233_1 : wc.cell? ⟨gb273, 1, none⟩ = some (.int .u64 a2_1) := (blk_cell BK273.out 1).trans rfl; have hfz233_0 := blk_frozen BK273.out 0; have hfz233_1 := blk_frozen BK273.out 1
         go_wp2_with (first | ((with_reducible refine gate_callee (f := 31) rfl ?_); refine goesL_ (some 68) rfl rfl Tryd.func31 (by kernel_rfl) rfl #[.agg #[.int .i64 a0_0, .int .u64 a0_1], .agg #[.int .i64 a2_0, .int .u64 a2_1]] rfl (by (try simp only [List.map_toArray, List.map_cons, List.map_nil]); first | done | rfl | (simp only [List.length_drop, List.length_take]; rfl)) ?_; (with_reducible refine (wide_Add.calls a0_0 a0_1 a2_0 a2_1 t278 t279 t280 _ A198.out).mono ?_); rintro e w234 ⟨rfl, hb⟩; refine ⟨_, rfl, ?_⟩; have n0_ := am (bb BK271 hb); have n1_ := am (bb BK272 hb); have n2_ := am (bb BK273 hb); have n3_ := am (below_step bz hb); clear BK271; clear BK272; clear BK273; clear HB; have BK271 := n0_; have BK272 := n1_; have BK273 := n2_; have HB := n3_; clear n0_ n1_ n2_ n3_; (try clear hb); (try clear hb2); (try clear hk); (try clear hi)) | ((with_reducible refine gate_dst (N := 10) rfl ?_); refine box_event ?hg (N := 10) ?hd (cs := #[.int .i64 0, .int .u64 0]) (t := 24) ?hr ?_; (case hd => rfl); (case hg => rfl); (case hr => first | (go_simp; done) | (go_simp; rfl)); intro gb281 hg w235 hbox hb; have n0_ := am (bb BK271 hb); have n1_ := am (bb BK272 hb); have n2_ := am (bb BK273 hb); have n3_ := am (below_step bz hb); have n4_ := am (hbox); have n5_ := am ((by rw [hg]; exact (below_size bz) : w.heap.size ≤ gb281)); have n6_ := am ((by rw [hg]; exact (below_size bz) : w.heap.size ≤ gb281)); have n7_ := am ((by rw [hg]; exact Nat.ne_of_lt (bl BK271) : gb271 ≠ gb281)); have n8_ := am ((by rw [hg]; exact Nat.ne_of_gt (bl BK271) : gb281 ≠ gb271)); have n9_ := am ((by rw [hg]; exact Nat.ne_of_lt (bl BK272) : gb272 ≠ gb281)); have n10_ := am ((by rw [hg]; exact Nat.ne_of_gt (bl BK272) : gb281 ≠ gb272)); have n11_ := am ((by rw [hg]; exact Nat.ne_of_lt (bl BK273) : gb273 ≠ gb281)); have n12_ := am ((by rw [hg]; exact Nat.ne_of_gt (bl BK273) : gb281 ≠ gb273)); clear BK271; clear BK272; clear BK273; clear HB; have BK271 := n0_; have BK272 := n1_; have BK273 := n2_; have HB := n3_; have BK281 := n4_; have GW281 := n5_; have GE281 := n6_; have NB271_281 := n7_; have NB281_271 := n8_; have NB272_281 := n9_; have NB281_272 := n10_; have NB273_281 := n11_; have NB281_273 := n12_; clear n0_ n1_ n2_ n3_ n4_ n5_ n6_ n7_ n8_ n9_ n10_ n11_ n12_; clear hb hbox hg; have hnb236 := NB281_271.out; have hnc236 := NB271_281.out; have hnb237 := NB281_272.out; have hnc237 := NB272_281.out; have hnb238 := NB281_273.out; have hnc238 := NB273_281.out; have hcz239_0 : w235.cell? ⟨gb281, 0, none⟩ = some (.int .i64 0) := (blk_cell BK281.out 0).trans rfl; have hcz239_1 : w235.cell? ⟨gb281, 1, none⟩ = some (.int .u64 0) := (blk_cell BK281.out 1).trans rfl; have hfz239_0 := blk_frozen BK281.out 0; have hfz239_1 := blk_frozen BK281.out 1; have hcz240_0 : w235.cell? ⟨gb272, 0, none⟩ = some (.int .i64 a1_0) := (blk_cell BK272.out 0).trans rfl; have hcz240_1 : w235.cell? ⟨gb272, 1, none⟩ = some (.int .u64 a1_1) := (blk_cell BK272.out 1).trans rfl; have hfz240_0 := blk_frozen BK272.out 0; have hfz240_1 := blk_frozen BK272.out 1; have hcz241_0 : w235.cell? ⟨gb273, 0, none⟩ = some (.int .i64 a2_0) := (blk_cell BK273.out 0).trans rfl; have hcz241_1 : w235.cell? ⟨gb273, 1, none⟩ = some (.int .u64 a2_1) := (blk_cell BK273.out 1).trans rfl; have hfz241_0 := blk_frozen BK273.out 0; have hfz241_1 := blk_frozen BK273.out 1) | ((with_reducible refine gate_callee (f := 31) rfl ?_); refine goesL_ (some 74) rfl rfl Tryd.func31 (by kernel_rfl) rfl #[.agg #[.int .i64 a1_0, .int .u64 a1_1], .agg #[.int .i64 a2_0, .int .u64 a2_1]] rfl (by (try simp only [List.map_toArray, List.map_cons, List.map_nil]); first | done | rfl | (simp only [List.length_drop, List.length_take]; rfl)) ?_; (with_reducible refine (wide_Add.calls a1_0 a1_1 a2_0 a2_1 t282 t283 t284 _ A199.out).mono ?_); rintro e w242 ⟨rfl, hb⟩; refine ⟨_, rfl, ?_⟩; have n0_ := am (blk_below (g := gb271) (o := .cells #[.int .i64 a0_0, .int .u64 a0_1] 24 (0, 0)) (by (with_reducible repeat (first | apply bA | apply bB | apply bC)); refine blk_far ?_ NB271_281.out _; (with_reducible repeat (first | apply bA | apply bB | apply bC)); refine blk_far ?_ NB271_281.out _; (with_reducible repeat (first | apply bA | apply bB | apply bC)); exact BK271.out) hb); have n1_ := am (blk_below (g := gb272) (o := .cells #[.int .i64 a1_0, .int .u64 a1_1] 24 (0, 0)) (by (with_reducible repeat (first | apply bA | apply bB | apply bC)); refine blk_far ?_ NB272_281.out _; (with_reducible repeat (first | apply bA | apply bB | apply bC)); refine blk_far ?_ NB272_281.out _; (with_reducible repeat (first | apply bA | apply bB | apply bC)); exact BK272.out) hb); have n2_ := am (blk_below (g := gb273) (o := .cells #[.int .i64 a2_0, .int .u64 a2_1] 24 (0, 0)) (by (with_reducible repeat (first | apply bA | apply bB | apply bC)); refine blk_far ?_ NB273_281.out _; (with_reducible repeat (first | apply bA | apply bB | apply bC)); refine blk_far ?_ NB273_281.out _; (with_reducible repeat (first | apply bA | apply bB | apply bC)); exact BK273.out) hb); have n3_ := am (blk_below (g := gb281) (o := .cells #[.int .i64 t278, .int .u64 t279] 24 (0, 0)) (by (with_reducible repeat (first | apply bA | apply bB | apply bC)); refine blk_put (cs := #[.int .i64 t278, .int .u64 0]) ?_ 1 _ rfl; (with_reducible repeat (first | apply bA | apply bB | apply bC)); refine blk_put (cs := #[.int .i64 0, .int .u64 0]) ?_ 0 _ rfl; (with_reducible repeat (first | apply bA | apply bB | apply bC)); exact BK281.out) hb); have n4_ := am (below_step bz hb); clear BK271; clear BK272; clear BK273; clear BK281; clear HB; have BK271 := n0_; have BK272 := n1_; have BK273 := n2_; have BK281 := n3_; have HB := n4_; clear n0_ n1_ n2_ n3_ n4_; (try clear hb); (try clear hb2); (try clear hk); (try clear hi)) | ((with_reducible refine gate_dst (N := 12) rfl ?_); refine box_event ?hg (N := 12) ?hd (cs := #[.int .i64 0, .int .u64 0]) (t := 24) ?hr ?_; (case hd => rfl); (case hg => rfl); (case hr => first | (go_simp; done) | (go_simp; rfl)); intro gb285 hg w243 hbox hb; have n0_ := am (bb BK271 hb); have n1_ := am (bb BK272 hb); have n2_ := am (bb BK273 hb); have n3_ := am (bb BK281 hb); have n4_ := am (below_step bz hb); have n5_ := am (hbox); have n6_ := am ((by rw [hg]; exact (below_size bz) : w.heap.size ≤ gb285)); have n7_ := am ((by rw [hg]; exact (below_size bz) : w.heap.size ≤ gb285)); have n8_ := am ((by rw [hg]; exact Nat.ne_of_lt (bl BK271) : gb271 ≠ gb285)); have n9_ := am ((by rw [hg]; exact Nat.ne_of_gt (bl BK271) : gb285 ≠ gb271)); have n10_ := am ((by rw [hg]; exact Nat.ne_of_lt (bl BK272) : gb272 ≠ gb285)); have n11_ := am ((by rw [hg]; exact Nat.ne_of_gt (bl BK272) : gb285 ≠ gb272)); have n12_ := am ((by rw [hg]; exact Nat.ne_of_lt (bl BK273) : gb273 ≠ gb285)); have n13_ := am ((by rw [hg]; exact Nat.ne_of_gt (bl BK273) : gb285 ≠ gb273)); have n14_ := am ((by rw [hg]; exact Nat.ne_of_lt (bl BK281) : gb281 ≠ gb285)); have n15_ := am ((by rw [hg]; exact Nat.ne_of_gt (bl BK281) : gb285 ≠ gb281)); clear BK271; clear BK272; clear BK273; clear BK281; clear HB; have BK271 := n0_; have BK272 := n1_; have BK273 := n2_; have BK281 := n3_; have HB := n4_; have BK285 := n5_; have GW285 := n6_; have GE285 := n7_; have NB271_285 := n8_; have NB285_271 := n9_; have NB272_285 := n10_; have NB285_272 := n11_; have NB273_285 := n12_; have NB285_273 := n13_; have NB281_285 := n14_; have NB285_281 := n15_; clear n0_ n1_ n2_ n3_ n4_ n5_ n6_ n7_ n8_ n9_ n10_ n11_ n12_ n13_ n14_ n15_; clear hb hbox hg; have hnb244 := NB285_271.out; have hnc244 := NB271_285.out; have hnb245 := NB285_272.out; have hnc245 := NB272_285.out; have hnb246 := NB285_273.out; have hnc246 := NB273_285.out; have hnb247 := NB285_281.out; have hnc247 := NB281_285.out; have hcz248_0 : w243.cell? ⟨gb285, 0, none⟩ = some (.int .i64 0) := (blk_cell BK285.out 0).trans rfl; have hcz248_1 : w243.cell? ⟨gb285, 1, none⟩ = some (.int .u64 0) := (blk_cell BK285.out 1).trans rfl; have hfz248_0 := blk_frozen BK285.out 0; have hfz248_1 := blk_frozen BK285.out 1) | (go_at_call 29; (with_reducible refine (tumblerlaw01_alive.calls kj6  t288 _ (tN hT) A228.out).mono ?_); rintro e w249 ⟨rfl, hb⟩; have n0_ := am (blk_below (g := gb271) (o := .cells #[.int .i64 a0_0, .int .u64 a0_1] 24 (0, 0)) (by (with_reducible repeat (first | apply bA | apply bB | apply bC)); refine blk_far ?_ NB271_285.out _; (with_reducible repeat (first | apply bA | apply bB | apply bC)); refine blk_far ?_ NB271_285.out _; (with_reducible repeat (first | apply bA | apply bB | apply bC)); exact BK271.out) hb); have n1_ := am (blk_below (g := gb272) (o := .cells #[.int .i64 a1_0, .int .u64 a1_1] 24 (0, 0)) (by (with_reducible repeat (first | apply bA | apply bB | apply bC)); refine blk_far ?_ NB272_285.out _; (with_reducible repeat (first | apply bA | apply bB | apply bC)); refine blk_far ?_ NB272_285.out _; (with_reducible repeat (first | apply bA | apply bB | apply bC)); exact BK272.out) hb); have n2_ := am (blk_below (g := gb273) (o := .cells #[.int .i64 a2_0, .int .u64 a2_1] 24 (0, 0)) (by (with_reducible repeat (first | apply bA | apply bB | apply bC)); refine blk_far ?_ NB273_285.out _; (with_reducible repeat (first | apply bA | apply bB | apply bC)); refine blk_far ?_ NB273_285.out _; (with_reducible repeat (first | apply bA | apply bB | apply bC)); exact BK273.out) hb); have n3_ := am (blk_below (g := gb281) (o := .cells #[.int .i64 t278, .int .u64 t279] 24 (0, 0)) (by (with_reducible repeat (first | apply bA | apply bB | apply bC)); refine blk_far ?_ NB281_285.out _; (with_reducible repeat (first | apply bA | apply bB | apply bC)); refine blk_far ?_ NB281_285.out _; (with_reducible repeat (first | apply bA | apply bB | apply bC)); exact BK281.out) hb); have n4_ := am (blk_below (g := gb285) (o := .cells #[.int .i64 t282, .int .u64 t283] 24 (0, 0)) (by (with_reducible repeat (first | apply bA | apply bB | apply bC)); refine blk_put (cs := #[.int .i64 t282, .int .u64 0]) ?_ 1 _ rfl; (with_reducible repeat (first | apply bA | apply bB | apply bC)); refine blk_put (cs := #[.int .i64 0, .int .u64 0]) ?_ 0 _ rfl; (with_reducible repeat (first | apply bA | apply bB | apply bC)); exact BK285.out) hb); have n5_ := am (below_step bz hb); clear BK271; clear BK272; clear BK273; clear BK281; clear BK285; clear HB; have BK271 := n0_; have BK272 := n1_; have BK273 := n2_; have BK281 := n3_; have BK285 := n4_; have HB := n5_; clear n0_ n1_ n2_ n3_ n4_ n5_; (try clear hb); (try clear hb2); (try clear hk); (try clear hi)))
         go_ret
         exact ⟨by first | rfl | (simp [errW_none, errW_some] <;> rfl) | (simp [*, errW_none, errW_some] <;> rfl), by repeat (first | (with_reducible first | exact HB.out | apply dA | apply dB | apply dC | refine dE ?_ ‹_›) | exact HB.out)⟩
     · rw [if_neg c200] at H
       have c200b0 : (t280 == 0) = false := beq_eq_false_iff_ne.mpr c200; have c200b1 : (t280 != 0) = true := bne_iff_ne.mpr c200
       replace H := Option.bind_eq_some_iff.mp H
       obtain ⟨t289, A2500, H⟩ := H
       replace H : (some t289) = some r := H
       have A250 := Aside0.mk A2500; clear A2500
       obtain rfl := Option.some.inj H
       have hnb251 := NB271_272.out; have hnc251 := NB272_271.out; have hnb252 := NB271_273.out; have hnc252 := NB273_271.out; have hcz253_0 : wc.cell? ⟨gb271, 0, none⟩ = some (.int .i64 a0_0) := (blk_cell BK271.out 0).trans rfl; have hcz253_1 : wc.cell? ⟨gb271, 1, none⟩ = some (.int .u64 a0_1) := (blk_cell BK271.out 1).trans rfl; have hfz253_0 := blk_frozen BK271.out 0; have hfz253_1 := blk_frozen BK271.out 1; have hnb254 := NB273_272.out; have hnc254 := NB272_273.out; have hcz255_0 : wc.cell? ⟨gb273, 0, none⟩ = some (.int .i64 a2_0) := (blk_cell BK273.out 0).trans rfl; have hcz255_1 : wc.cell? ⟨gb273, 1, none⟩ = some (.int .u64 a2_1) := (blk_cell BK273.out 1).trans rfl; have hfz255_0 := blk_frozen BK273.out 0; have hfz255_1 := blk_frozen BK273.out 1
       go_wp2_with (first | ((with_reducible refine gate_callee (f := 31) rfl ?_); refine goesL_ (some 68) rfl rfl Tryd.func31 (by kernel_rfl) rfl #[.agg #[.int .i64 a0_0, .int .u64 a0_1], .agg #[.int .i64 a2_0, .int .u64 a2_1]] rfl (by (try simp only [List.map_toArray, List.map_cons, List.map_nil]); first | done | rfl | (simp only [List.length_drop, List.length_take]; rfl)) ?_; (with_reducible refine (wide_Add.calls a0_0 a0_1 a2_0 a2_1 t278 t279 t280 _ A198.out).mono ?_); rintro e w256 ⟨rfl, hb⟩; refine ⟨_, rfl, ?_⟩; have n0_ := am (bb BK271 hb); have n1_ := am (bb BK272 hb); have n2_ := am (bb BK273 hb); have n3_ := am (below_step bz hb); clear BK271; clear BK272; clear BK273; clear HB; have BK271 := n0_; have BK272 := n1_; have BK273 := n2_; have HB := n3_; clear n0_ n1_ n2_ n3_; (try clear hb); (try clear hb2); (try clear hk); (try clear hi)) | ((with_reducible refine gate_dst (N := 10) rfl ?_); refine box_event ?hg (N := 10) ?hd (cs := #[.int .i64 0, .int .u64 0]) (t := 24) ?hr ?_; (case hd => rfl); (case hg => rfl); (case hr => first | (go_simp; done) | (go_simp; rfl)); intro gb281 hg w257 hbox hb; have n0_ := am (bb BK271 hb); have n1_ := am (bb BK272 hb); have n2_ := am (bb BK273 hb); have n3_ := am (below_step bz hb); have n4_ := am (hbox); have n5_ := am ((by rw [hg]; exact (below_size bz) : w.heap.size ≤ gb281)); have n6_ := am ((by rw [hg]; exact (below_size bz) : w.heap.size ≤ gb281)); have n7_ := am ((by rw [hg]; exact Nat.ne_of_lt (bl BK271) : gb271 ≠ gb281)); have n8_ := am ((by rw [hg]; exact Nat.ne_of_gt (bl BK271) : gb281 ≠ gb271)); have n9_ := am ((by rw [hg]; exact Nat.ne_of_lt (bl BK272) : gb272 ≠ gb281)); have n10_ := am ((by rw [hg]; exact Nat.ne_of_gt (bl BK272) : gb281 ≠ gb272)); have n11_ := am ((by rw [hg]; exact Nat.ne_of_lt (bl BK273) : gb273 ≠ gb281)); have n12_ := am ((by rw [hg]; exact Nat.ne_of_gt (bl BK273) : gb281 ≠ gb273)); clear BK271; clear BK272; clear BK273; clear HB; have BK271 := n0_; have BK272 := n1_; have BK273 := n2_; have HB := n3_; have BK281 := n4_; have GW281 := n5_; have GE281 := n6_; have NB271_281 := n7_; have NB281_271 := n8_; have NB272_281 := n9_; have NB281_272 := n10_; have NB273_281 := n11_; have NB281_273 := n12_; clear n0_ n1_ n2_ n3_ n4_ n5_ n6_ n7_ n8_ n9_ n10_ n11_ n12_; clear hb hbox hg; have hnb258 := NB281_271.out; have hnc258 := NB271_281.out; have hnb259 := NB281_272.out; have hnc259 := NB272_281.out; have hnb260 := NB281_273.out; have hnc260 := NB273_281.out; have hcz261_0 : w257.cell? ⟨gb281, 0, none⟩ = some (.int .i64 0) := (blk_cell BK281.out 0).trans rfl; have hcz261_1 : w257.cell? ⟨gb281, 1, none⟩ = some (.int .u64 0) := (blk_cell BK281.out 1).trans rfl; have hfz261_0 := blk_frozen BK281.out 0; have hfz261_1 := blk_frozen BK281.out 1; have hcz262_0 : w257.cell? ⟨gb272, 0, none⟩ = some (.int .i64 a1_0) := (blk_cell BK272.out 0).trans rfl; have hcz262_1 : w257.cell? ⟨gb272, 1, none⟩ = some (.int .u64 a1_1) := (blk_cell BK272.out 1).trans rfl; have hfz262_0 := blk_frozen BK272.out 0; have hfz262_1 := blk_frozen BK272.out 1; have hcz263_0 : w257.cell? ⟨gb273, 0, none⟩ = some (.int .i64 a2_0) := (blk_cell BK273.out 0).trans rfl; have hcz263_1 : w257.cell? ⟨gb273, 1, none⟩ = some (.int .u64 a2_1) := (blk_cell BK273.out 1).trans rfl; have hfz263_0 := blk_frozen BK273.out 0; have hfz263_1 := blk_frozen BK273.out 1) | ((with_reducible refine gate_callee (f := 31) rfl ?_); refine goesL_ (some 74) rfl rfl Tryd.func31 (by kernel_rfl) rfl #[.agg #[.int .i64 a1_0, .int .u64 a1_1], .agg #[.int .i64 a2_0, .int .u64 a2_1]] rfl (by (try simp only [List.map_toArray, List.map_cons, List.map_nil]); first | done | rfl | (simp only [List.length_drop, List.length_take]; rfl)) ?_; (with_reducible refine (wide_Add.calls a1_0 a1_1 a2_0 a2_1 t282 t283 t284 _ A199.out).mono ?_); rintro e w264 ⟨rfl, hb⟩; refine ⟨_, rfl, ?_⟩; have n0_ := am (blk_below (g := gb271) (o := .cells #[.int .i64 a0_0, .int .u64 a0_1] 24 (0, 0)) (by (with_reducible repeat (first | apply bA | apply bB | apply bC)); refine blk_far ?_ NB271_281.out _; (with_reducible repeat (first | apply bA | apply bB | apply bC)); refine blk_far ?_ NB271_281.out _; (with_reducible repeat (first | apply bA | apply bB | apply bC)); exact BK271.out) hb); have n1_ := am (blk_below (g := gb272) (o := .cells #[.int .i64 a1_0, .int .u64 a1_1] 24 (0, 0)) (by (with_reducible repeat (first | apply bA | apply bB | apply bC)); refine blk_far ?_ NB272_281.out _; (with_reducible repeat (first | apply bA | apply bB | apply bC)); refine blk_far ?_ NB272_281.out _; (with_reducible repeat (first | apply bA | apply bB | apply bC)); exact BK272.out) hb); have n2_ := am (blk_below (g := gb273) (o := .cells #[.int .i64 a2_0, .int .u64 a2_1] 24 (0, 0)) (by (with_reducible repeat (first | apply bA | apply bB | apply bC)); refine blk_far ?_ NB273_281.out _; (with_reducible repeat (first | apply bA | apply bB | apply bC)); refine blk_far ?_ NB273_281.out _; (with_reducible repeat (first | apply bA | apply bB | apply bC)); exact BK273.out) hb); have n3_ := am (blk_below (g := gb281) (o := .cells #[.int .i64 t278, .int .u64 t279] 24 (0, 0)) (by (with_reducible repeat (first | apply bA | apply bB | apply bC)); refine blk_put (cs := #[.int .i64 t278, .int .u64 0]) ?_ 1 _ rfl; (with_reducible repeat (first | apply bA | apply bB | apply bC)); refine blk_put (cs := #[.int .i64 0, .int .u64 0]) ?_ 0 _ rfl; (with_reducible repeat (first | apply bA | apply bB | apply bC)); exact BK281.out) hb); have n4_ := am (below_step bz hb); clear BK271; clear BK272; clear BK273; clear BK281; clear HB; have BK271 := n0_; have BK272 := n1_; have BK273 := n2_; have BK281 := n3_; have HB := n4_; clear n0_ n1_ n2_ n3_ n4_; (try clear hb); (try clear hb2); (try clear hk); (try clear hi)) | ((with_reducible refine gate_dst (N := 12) rfl ?_); refine box_event ?hg (N := 12) ?hd (cs := #[.int .i64 0, .int .u64 0]) (t := 24) ?hr ?_; (case hd => rfl); (case hg => rfl); (case hr => first | (go_simp; done) | (go_simp; rfl)); intro gb285 hg w265 hbox hb; have n0_ := am (bb BK271 hb); have n1_ := am (bb BK272 hb); have n2_ := am (bb BK273 hb); have n3_ := am (bb BK281 hb); have n4_ := am (below_step bz hb); have n5_ := am (hbox); have n6_ := am ((by rw [hg]; exact (below_size bz) : w.heap.size ≤ gb285)); have n7_ := am ((by rw [hg]; exact (below_size bz) : w.heap.size ≤ gb285)); have n8_ := am ((by rw [hg]; exact Nat.ne_of_lt (bl BK271) : gb271 ≠ gb285)); have n9_ := am ((by rw [hg]; exact Nat.ne_of_gt (bl BK271) : gb285 ≠ gb271)); have n10_ := am ((by rw [hg]; exact Nat.ne_of_lt (bl BK272) : gb272 ≠ gb285)); have n11_ := am ((by rw [hg]; exact Nat.ne_of_gt (bl BK272) : gb285 ≠ gb272)); have n12_ := am ((by rw [hg]; exact Nat.ne_of_lt (bl BK273) : gb273 ≠ gb285)); have n13_ := am ((by rw [hg]; exact Nat.ne_of_gt (bl BK273) : gb285 ≠ gb273)); have n14_ := am ((by rw [hg]; exact Nat.ne_of_lt (bl BK281) : gb281 ≠ gb285)); have n15_ := am ((by rw [hg]; exact Nat.ne_of_gt (bl BK281) : gb285 ≠ gb281)); clear BK271; clear BK272; clear BK273; clear BK281; clear HB; have BK271 := n0_; have BK272 := n1_; have BK273 := n2_; have BK281 := n3_; have HB := n4_; have BK285 := n5_; have GW285 := n6_; have GE285 := n7_; have NB271_285 := n8_; have NB285_271 := n9_; have NB272_285 := n10_; have NB285_272 := n11_; have NB273_285 := n12_; have NB285_273 := n13_; have NB281_285 := n14_; have NB285_281 := n15_; clear n0_ n1_ n2_ n3_ n4_ n5_ n6_ n7_ n8_ n9_ n10_ n11_ n12_ n13_ n14_ n15_; clear hb hbox hg; have hnb266 := NB285_271.out; have hnc266 := NB271_285.out; have hnb267 := NB285_272.out; have hnc267 := NB272_285.out; have hnb268 := NB285_273.out; have hnc268 := NB273_285.out; have hnb269 := NB285_281.out; have hnc269 := NB281_285.out; have hcz270_0 : w265.cell? ⟨gb285, 0, none⟩ = some (.int .i64 0) := (blk_cell BK285.out 0).trans rfl; have hcz270_1 : w265.cell? ⟨gb285, 1, none⟩ = some (.int .u64 0) := (blk_cell BK285.out 1).trans rfl; have hfz270_0 := blk_frozen BK285.out 0; have hfz270_1 := blk_frozen BK285.out 1) | (go_at_call 29; (with_reducible refine (tumblerlaw01_alive.calls kj6  t289 _ (tN hT) A250.out).mono ?_); rintro e w271 ⟨rfl, hb⟩; have n0_ := am (blk_below (g := gb271) (o := .cells #[.int .i64 a0_0, .int .u64 a0_1] 24 (0, 0)) (by (with_reducible repeat (first | apply bA | apply bB | apply bC)); refine blk_far ?_ NB271_285.out _; (with_reducible repeat (first | apply bA | apply bB | apply bC)); refine blk_far ?_ NB271_285.out _; (with_reducible repeat (first | apply bA | apply bB | apply bC)); exact BK271.out) hb); have n1_ := am (blk_below (g := gb272) (o := .cells #[.int .i64 a1_0, .int .u64 a1_1] 24 (0, 0)) (by (with_reducible repeat (first | apply bA | apply bB | apply bC)); refine blk_far ?_ NB272_285.out _; (with_reducible repeat (first | apply bA | apply bB | apply bC)); refine blk_far ?_ NB272_285.out _; (with_reducible repeat (first | apply bA | apply bB | apply bC)); exact BK272.out) hb); have n2_ := am (blk_below (g := gb273) (o := .cells #[.int .i64 a2_0, .int .u64 a2_1] 24 (0, 0)) (by (with_reducible repeat (first | apply bA | apply bB | apply bC)); refine blk_far ?_ NB273_285.out _; (with_reducible repeat (first | apply bA | apply bB | apply bC)); refine blk_far ?_ NB273_285.out _; (with_reducible repeat (first | apply bA | apply bB | apply bC)); exact BK273.out) hb); have n3_ := am (blk_below (g := gb281) (o := .cells #[.int .i64 t278, .int .u64 t279] 24 (0, 0)) (by (with_reducible repeat (first | apply bA | apply bB | apply bC)); refine blk_far ?_ NB281_285.out _; (with_reducible repeat (first | apply bA | apply bB | apply bC)); refine blk_far ?_ NB281_285.out _; (with_reducible repeat (first | apply bA | apply bB | apply bC)); exact BK281.out) hb); have n4_ := am (blk_below (g := gb285) (o := .cells #[.int .i64 t282, .int .u64 t283] 24 (0, 0)) (by (with_reducible repeat (first | apply bA | apply bB | apply bC)); refine blk_put (cs := #[.int .i64 t282, .int .u64 0]) ?_ 1 _ rfl; (with_reducible repeat (first | apply bA | apply bB | apply bC)); refine blk_put (cs := #[.int .i64 0, .int .u64 0]) ?_ 0 _ rfl; (with_reducible repeat (first | apply bA | apply bB | apply bC)); exact BK285.out) hb); have n5_ := am (below_step bz hb); clear BK271; clear BK272; clear BK273; clear BK281; clear BK285; clear HB; have BK271 := n0_; have BK272 := n1_; have BK273 := n2_; have BK281 := n3_; have BK285 := n4_; have HB := n5_; clear n0_ n1_ n2_ n3_ n4_ n5_; (try clear hb); (try clear hb2); (try clear hk); (try clear hi)))
       go_ret
       exact ⟨by first | rfl | (simp [errW_none, errW_some] <;> rfl) | (simp [*, errW_none, errW_some] <;> rfl), by repeat (first | (with_reducible first | exact HB.out | apply dA | apply dB | apply dC | refine dE ?_ ‹_›) | exact HB.out)⟩

/-- THE ONE PURE STATEMENT of tumblerlaw01_WideOrders: yours. -/
def tumblerlaw01_WideOrders.Pure : Prop := ∀ (a0_0 : Int) (a0_1 : Int) (a1_0 : Int) (a1_1 : Int) (a2_0 : Int) (a2_1 : Int), (Lit.int .i64 a0_0).wf = true → (Lit.int .u64 a0_1).wf = true → (Lit.int .i64 a1_0).wf = true → (Lit.int .u64 a1_1).wf = true → (Lit.int .i64 a2_0).wf = true → (Lit.int .u64 a2_1).wf = true → ∃ k, tumblerlaw01_WideOrders.f k a0_0 a0_1 a1_0 a1_1 a2_0 a2_1 = some true
theorem tumblerlaw01_WideOrders.walk (P : tumblerlaw01_WideOrders.Pure) (a0_0 : Int) (a0_1 : Int) (a1_0 : Int) (a1_1 : Int) (a2_0 : Int) (a2_1 : Int) (w : World) (hT : Aside0 (WF w)) (w0_0 : (Lit.int .i64 a0_0).wf = true) (w0_1 : (Lit.int .u64 a0_1).wf = true) (w1_0 : (Lit.int .i64 a1_0).wf = true) (w1_1 : (Lit.int .u64 a1_1).wf = true) (w2_0 : (Lit.int .i64 a2_0).wf = true) (w2_1 : (Lit.int .u64 a2_1).wf = true) :
 Calls Tryd.prog 5 #[.agg #[.int .i64 a0_0, .int .u64 a0_1], .agg #[.int .i64 a1_0, .int .u64 a1_1], .agg #[.int .i64 a2_0, .int .u64 a2_1]] w fun e w' => e = .returned (.bool true) ∧ Below w.heap.size w w' := by
 obtain ⟨k, h⟩ := P a0_0 a0_1 a1_0 a1_1 a2_0 a2_1 w0_0 w0_1 w1_0 w1_1 w2_0 w2_1
 refine (tumblerlaw01_WideOrders.calls k a0_0 a0_1 a1_0 a1_1 a2_0 a2_1 true w hT ⟨rfl⟩ h).mono ?_
 rintro e w' ⟨rfl, hd⟩
 exact ⟨rfl, hd⟩

end Go.Proofs.YtcfhmbhlibhlnaaDoor.P
