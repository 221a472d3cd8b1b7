-- Printed by this session's own pp.py (wip/tool) out of the translation.
import Derived.Test.YtcfhmbhlibhlnaaDoorPx0
import Derived.Test.YtcfhmbhlibhlnaaDoorPxe24
import Derived.Test.YtcfhmbhlibhlnaaDoorPxf47
import Derived.Test.YtcfhmbhlibhlnaaDoorPxf30
import Derived.Test.YtcfhmbhlibhlnaaDoorPxf50
import Derived.Test.YtcfhmbhlibhlnaaDoorPxf29
import Derived.Test.YtcfhmbhlibhlnaaDoorPxf41
import Derived.Test.YtcfhmbhlibhlnaaDoorPxf48
import Derived.Test.YtcfhmbhlibhlnaaDoorPxf42
import Derived.Test.YtcfhmbhlibhlnaaDoorPxf43
import Derived.Test.YtcfhmbhlibhlnaaDoorPxf44
import Derived.Test.YtcfhmbhlibhlnaaDoorPxf45
import Derived.Test.YtcfhmbhlibhlnaaDoorPxf46
import Derived.Test.YtcfhmbhlibhlnaaDoorPxf49
import Derived.Test.YtcfhmbhlibhlnaaDoorPxf51
namespace Go.Proofs.YtcfhmbhlibhlnaaDoor.P
open Go.RowKit Go.Proofs.YtcfhmbhlibhlnaaDoorW.PrintWords Go.Proofs.YtcfhmbhlibhlnaaDoorW.PrintLast Go.Proofs.YtcfhmbhlibhlnaaDoorW.PrintMore Go.Proofs.YtcfhmbhlibhlnaaDoor.Mine
attribute [local go_sem] ext71 ext79 eqA61 eqA62
attribute [local go_sem] max2_int min2_int max_two min_two max_three min_three max_four min_four   -- for this text's walks alone
set_option linter.unusedVariables false
set_option linter.unusedSimpArgs false

attribute [local go_sem high] eqA24
/-! ### tumblerlaw01_WideSigns: function 12 -/
def tumblerlaw01_WideSigns.f (k : Nat) (a0_0 : Int) (a0_1 : Int) (a1_0 : Int) (a1_1 : Int) (a2 : Int) : Option (Bool) := (wide_Small.f a0_0 a0_1).bind fun bt765 => ((tumblerref01_Small.f a0_0 a0_1).bind fun bt767 => ((wide_Neg.f a0_0 a0_1).bind fun bt769 => ((tumblerref01_Neg.f k a0_0 a0_1).bind fun bt773 => ((wide_Abs.f a0_0 a0_1).bind fun bt777 => ((tumblerref01_Abs.f k a0_0 a0_1).bind fun bt781 => ((wide_Of.f a2).bind fun bt785 => ((tumblerref01_Of.f a2).bind fun bt787 => (if (bt785.1 == bt787.1 && (bt785.2 == bt787.2)) = true then (if bt765.1 = bt767.1 then (if (bt765.2 == bt767.2) = true then ((wide_Cmp.f a0_0 a0_1 a1_0 a1_1).bind fun t789 => ((tumblerref01_Cmp.f k a0_0 a0_1 a1_0 a1_1).bind fun t790 => (if t789 = t790 then ((wide_Sign.f a0_0 a0_1).bind fun t791 => ((tumblerref01_Sign.f k a0_0 a0_1).bind fun t792 => (if t791 = t792 then (if (bt769.1 == bt773.1 && (bt769.2.1 == bt773.2.1)) = true then (if bt769.2.2 = bt773.2.2 then (if (bt777.1 == bt781.1 && (bt777.2.1 == bt781.2.1)) = true then (if bt777.2.2 = bt781.2.2 then ((tumblerlaw01_alive.f k).bind fun t793 => (some t793)) else (some false)) else (some false)) else (some false)) else (some false)) else (some false)))) else (some false)))) else (some false)) else (some false)) else (some false)))))))))
theorem tumblerlaw01_WideSigns.mono : ∀ a0 a1 a2 a3 a4 k, LeO (tumblerlaw01_WideSigns.f k a0 a1 a2 a3 a4) (tumblerlaw01_WideSigns.f (k + 1) a0 a1 a2 a3 a4) := by
 intro a0 a1 a2 a3 a4 k
 unfold tumblerlaw01_WideSigns.f
 repeat' first
  | (with_reducible exact tumblerlaw01_alive.mono _)
  | (with_reducible exact tumblerref01_Abs.mono _ _ _)
  | (with_reducible exact tumblerref01_Cmp.mono _ _ _ _ _)
  | (with_reducible exact tumblerref01_Neg.mono _ _ _)
  | (with_reducible exact tumblerref01_Sign.mono _ _ _)
  | (with_reducible exact LeO.refl _)
  | (with_reducible exact LeO.none _)
  | (with_reducible refine LeO.ite ?_ ?_)
  | (with_reducible refine LeO.bind ?_ (fun _ => ?_))
  | exact tumblerlaw01_alive.mono _
  | exact tumblerref01_Abs.mono _ _ _
  | exact tumblerref01_Cmp.mono _ _ _ _ _
  | exact tumblerref01_Neg.mono _ _ _
  | exact tumblerref01_Sign.mono _ _ _
  | exact LeO.none _
  | refine LeO.ite ?_ ?_
  | refine LeO.bind ?_ (fun _ => ?_)
def tumblerlaw01_WideSigns.T7 : Bool × List (List Nat × List Nat) := (true, [([], []), ([0], [0]), ([], []), ([2, 1], [2]), ([1, 3], [1, 3]), ([4, 3], [4]), ([5], [5]), ([5], [5]), ([6, 7, 5], [5, 6, 7]), ([5, 8], [5, 8]), ([9, 5], [9]), ([10], [10]), ([10], [10]), ([11, 12, 10], [10, 11, 12]), ([10, 13], [10, 13]), ([14, 10], [14]), ([15], [15]), ([15], [15]), ([16, 17, 15, 15], [15, 16, 17]), ([15], [15]), ([15], [15]), ([19, 20, 18, 15], [15, 19, 20]), ([18, 21, 15], [15, 18, 21]), ([15, 22], [15, 22]), ([23, 21], [23]), ([24], [24]), ([25, 24, 24], [24, 25]), ([24], [24]), ([27, 26, 24], [24, 27]), ([26, 28, 24], [24, 26, 28]), ([24, 29], [24, 29]), ([30, 28], [30]), ([31], [31]), ([31], [31]), ([32, 33, 31], [31, 32, 33]), ([31, 34], [31, 34]), ([35, 31], [35]), ([36], [36]), ([36], [36]), ([37, 38, 36], [36, 37, 38]), ([36, 39], [36, 39]), ([40, 36], [40]), ([41], [41]), ([41], [41]), ([42, 43, 41], [41, 42, 43]), ([41, 44], [41, 44]), ([45, 41], [45]), ([46], [46]), ([46], [46]), ([47, 48, 46], [46, 47, 48]), ([46, 49], [46, 49]), ([50, 46], [50]), ([51, 51], [51]), ([51, 52], [51, 52]), ([53, 52, 0, 1, 2, 3, 4, 5, 6, 7, 8, 9, 10, 11, 12, 13, 14, 15, 16, 17, 18, 19, 20, 21, 22, 23, 24, 25, 26, 27, 28, 29, 30, 31, 32, 33, 34, 35, 36, 37, 38, 39, 40, 41, 42, 43, 44, 45, 46, 47, 48, 49, 50, 51, 52, 53], [53])])
def tumblerlaw01_WideSigns.B7 : List Nat := [0, 1, 0, 7, 15, 31, 63, 63, 255, 511, 1023, 2047, 2047, 8191, 16383, 32767, 65535, 65535, 262143, 65535, 65535, 2097151, 4194303, 8388607, 16777215, 33554431, 67108863, 33554431, 268435455, 536870911, 1073741823, 2147483647, 4294967295, 4294967295, 17179869183, 34359738367, 68719476735, 137438953471, 137438953471, 549755813887, 1099511627775, 2199023255551, 4398046511103, 4398046511103, 17592186044415, 35184372088831, 70368744177663, 140737488355327, 140737488355327, 562949953421311, 1125899906842623, 2251799813685247, 4503599627370495, 9007199254740991, 18014398509481983]
theorem tumblerlaw01_WideSigns.tab7 : rtab .any (opsOf Tryd.f12 7) = tumblerlaw01_WideSigns.T7 := by kernel_rfl
theorem tumblerlaw01_WideSigns.bits7 : waitsOk tumblerlaw01_WideSigns.T7.2 tumblerlaw01_WideSigns.B7 = true := by kernel_rfl
set_option maxHeartbeats 8000000 in
set_option maxRecDepth 100000 in
theorem tumblerlaw01_WideSigns.calls (k : Nat) (a0_0 : Int) (a0_1 : Int) (a1_0 : Int) (a1_1 : Int) (a2 : Int) (r : Bool) (w : World) (hT : Aside0 (WF w)) (hr_ : Aside0 (r = true)) (h : tumblerlaw01_WideSigns.f k a0_0 a0_1 a1_0 a1_1 a2 = some r) :
 Calls Tryd.prog 12 #[.agg #[.int .i64 a0_0, .int .u64 a0_1], .agg #[.int .i64 a1_0, .int .u64 a1_1], .int .i64 a2] w fun e w' => e = .returned (.bool r) ∧ Below w.heap.size w w' := by
 have hu24 := Tryd.underlying24; have HB := am (Below.refl w.heap.size w); have H : ((wide_Small.f a0_0 a0_1).bind fun bt765 => ((tumblerref01_Small.f a0_0 a0_1).bind fun bt767 => ((wide_Neg.f a0_0 a0_1).bind fun bt769 => ((tumblerref01_Neg.f k a0_0 a0_1).bind fun bt773 => ((wide_Abs.f a0_0 a0_1).bind fun bt777 => ((tumblerref01_Abs.f k a0_0 a0_1).bind fun bt781 => ((wide_Of.f a2).bind fun bt785 => ((tumblerref01_Of.f a2).bind fun bt787 => (if (bt785.1 == bt787.1 && (bt785.2 == bt787.2)) = true then (if bt765.1 = bt767.1 then (if (bt765.2 == bt767.2) = true then ((wide_Cmp.f a0_0 a0_1 a1_0 a1_1).bind fun t789 => ((tumblerref01_Cmp.f k a0_0 a0_1 a1_0 a1_1).bind fun t790 => (if t789 = t790 then ((wide_Sign.f a0_0 a0_1).bind fun t791 => ((tumblerref01_Sign.f k a0_0 a0_1).bind fun t792 => (if t791 = t792 then (if (bt769.1 == bt773.1 && (bt769.2.1 == bt773.2.1)) = true then (if bt769.2.2 = bt773.2.2 then (if (bt777.1 == bt781.1 && (bt777.2.1 == bt781.2.1)) = true then (if bt777.2.2 = bt781.2.2 then ((tumblerlaw01_alive.f k).bind fun t793 => (some t793)) else (some false)) else (some false)) else (some false)) else (some false)) else (some false)))) else (some false)))) else (some false)) else (some false)) else (some false)))))))))) = some r := h; clear h
 replace H := Option.bind_eq_some_iff.mp H
 obtain ⟨⟨t765, t766⟩, A40, H⟩ := H
 replace H : ((tumblerref01_Small.f a0_0 a0_1).bind fun bt767 => ((wide_Neg.f a0_0 a0_1).bind fun bt769 => ((tumblerref01_Neg.f k a0_0 a0_1).bind fun bt773 => ((wide_Abs.f a0_0 a0_1).bind fun bt777 => ((tumblerref01_Abs.f k a0_0 a0_1).bind fun bt781 => ((wide_Of.f a2).bind fun bt785 => ((tumblerref01_Of.f a2).bind fun bt787 => (if (bt785.1 == bt787.1 && (bt785.2 == bt787.2)) = true then (if t765 = bt767.1 then (if (t766 == bt767.2) = true then ((wide_Cmp.f a0_0 a0_1 a1_0 a1_1).bind fun t789 => ((tumblerref01_Cmp.f k a0_0 a0_1 a1_0 a1_1).bind fun t790 => (if t789 = t790 then ((wide_Sign.f a0_0 a0_1).bind fun t791 => ((tumblerref01_Sign.f k a0_0 a0_1).bind fun t792 => (if t791 = t792 then (if (bt769.1 == bt773.1 && (bt769.2.1 == bt773.2.1)) = true then (if bt769.2.2 = bt773.2.2 then (if (bt777.1 == bt781.1 && (bt777.2.1 == bt781.2.1)) = true then (if bt777.2.2 = bt781.2.2 then ((tumblerlaw01_alive.f k).bind fun t793 => (some t793)) else (some false)) else (some false)) else (some false)) else (some false)) else (some false)))) else (some false)))) else (some false)) else (some false)) else (some false))))))))) = some r := H
 have A4 := Aside0.mk A40; clear A40
 replace H := Option.bind_eq_some_iff.mp H
 obtain ⟨⟨t767, t768⟩, A50, H⟩ := H
 replace H : ((wide_Neg.f a0_0 a0_1).bind fun bt769 => ((tumblerref01_Neg.f k a0_0 a0_1).bind fun bt773 => ((wide_Abs.f a0_0 a0_1).bind fun bt777 => ((tumblerref01_Abs.f k a0_0 a0_1).bind fun bt781 => ((wide_Of.f a2).bind fun bt785 => ((tumblerref01_Of.f a2).bind fun bt787 => (if (bt785.1 == bt787.1 && (bt785.2 == bt787.2)) = true then (if t765 = t767 then (if (t766 == t768) = true then ((wide_Cmp.f a0_0 a0_1 a1_0 a1_1).bind fun t789 => ((tumblerref01_Cmp.f k a0_0 a0_1 a1_0 a1_1).bind fun t790 => (if t789 = t790 then ((wide_Sign.f a0_0 a0_1).bind fun t791 => ((tumblerref01_Sign.f k a0_0 a0_1).bind fun t792 => (if t791 = t792 then (if (bt769.1 == bt773.1 && (bt769.2.1 == bt773.2.1)) = true then (if bt769.2.2 = bt773.2.2 then (if (bt777.1 == bt781.1 && (bt777.2.1 == bt781.2.1)) = true then (if bt777.2.2 = bt781.2.2 then ((tumblerlaw01_alive.f k).bind fun t793 => (some t793)) else (some false)) else (some false)) else (some false)) else (some false)) else (some false)))) else (some false)))) else (some false)) else (some false)) else (some false)))))))) = some r := H
 have A5 := Aside0.mk A50; clear A50
 replace H := Option.bind_eq_some_iff.mp H
 obtain ⟨⟨t769, t770, t771⟩, A60, H⟩ := H
 replace H : ((tumblerref01_Neg.f k a0_0 a0_1).bind fun bt773 => ((wide_Abs.f a0_0 a0_1).bind fun bt777 => ((tumblerref01_Abs.f k a0_0 a0_1).bind fun bt781 => ((wide_Of.f a2).bind fun bt785 => ((tumblerref01_Of.f a2).bind fun bt787 => (if (bt785.1 == bt787.1 && (bt785.2 == bt787.2)) = true then (if t765 = t767 then (if (t766 == t768) = true then ((wide_Cmp.f a0_0 a0_1 a1_0 a1_1).bind fun t789 => ((tumblerref01_Cmp.f k a0_0 a0_1 a1_0 a1_1).bind fun t790 => (if t789 = t790 then ((wide_Sign.f a0_0 a0_1).bind fun t791 => ((tumblerref01_Sign.f k a0_0 a0_1).bind fun t792 => (if t791 = t792 then (if (t769 == bt773.1 && (t770 == bt773.2.1)) = true then (if t771 = bt773.2.2 then (if (bt777.1 == bt781.1 && (bt777.2.1 == bt781.2.1)) = true then (if bt777.2.2 = bt781.2.2 then ((tumblerlaw01_alive.f k).bind fun t793 => (some t793)) else (some false)) else (some false)) else (some false)) else (some false)) else (some false)))) else (some false)))) else (some false)) else (some false)) else (some false))))))) = some r := H
 have A6 := Aside0.mk A60; clear A60
 replace H := Option.bind_eq_some_iff.mp H
 obtain ⟨⟨t773, t774, t775⟩, A70, H⟩ := H
 replace H : ((wide_Abs.f a0_0 a0_1).bind fun bt777 => ((tumblerref01_Abs.f k a0_0 a0_1).bind fun bt781 => ((wide_Of.f a2).bind fun bt785 => ((tumblerref01_Of.f a2).bind fun bt787 => (if (bt785.1 == bt787.1 && (bt785.2 == bt787.2)) = true then (if t765 = t767 then (if (t766 == t768) = true then ((wide_Cmp.f a0_0 a0_1 a1_0 a1_1).bind fun t789 => ((tumblerref01_Cmp.f k a0_0 a0_1 a1_0 a1_1).bind fun t790 => (if t789 = t790 then ((wide_Sign.f a0_0 a0_1).bind fun t791 => ((tumblerref01_Sign.f k a0_0 a0_1).bind fun t792 => (if t791 = t792 then (if (t769 == t773 && (t770 == t774)) = true then (if t771 = t775 then (if (bt777.1 == bt781.1 && (bt777.2.1 == bt781.2.1)) = true then (if bt777.2.2 = bt781.2.2 then ((tumblerlaw01_alive.f k).bind fun t793 => (some t793)) else (some false)) else (some false)) else (some false)) else (some false)) else (some false)))) else (some false)))) else (some false)) else (some false)) else (some false)))))) = some r := H
 have A7 := Aside0.mk A70; clear A70
 replace H := Option.bind_eq_some_iff.mp H
 obtain ⟨⟨t777, t778, t779⟩, A80, H⟩ := H
 replace H : ((tumblerref01_Abs.f k a0_0 a0_1).bind fun bt781 => ((wide_Of.f a2).bind fun bt785 => ((tumblerref01_Of.f a2).bind fun bt787 => (if (bt785.1 == bt787.1 && (bt785.2 == bt787.2)) = true then (if t765 = t767 then (if (t766 == t768) = true then ((wide_Cmp.f a0_0 a0_1 a1_0 a1_1).bind fun t789 => ((tumblerref01_Cmp.f k a0_0 a0_1 a1_0 a1_1).bind fun t790 => (if t789 = t790 then ((wide_Sign.f a0_0 a0_1).bind fun t791 => ((tumblerref01_Sign.f k a0_0 a0_1).bind fun t792 => (if t791 = t792 then (if (t769 == t773 && (t770 == t774)) = true then (if t771 = t775 then (if (t777 == bt781.1 && (t778 == bt781.2.1)) = true then (if t779 = bt781.2.2 then ((tumblerlaw01_alive.f k).bind fun t793 => (some t793)) else (some false)) else (some false)) else (some false)) else (some false)) else (some false)))) else (some false)))) else (some false)) else (some false)) else (some false))))) = some r := H
 have A8 := Aside0.mk A80; clear A80
 replace H := Option.bind_eq_some_iff.mp H
 obtain ⟨⟨t781, t782, t783⟩, A90, H⟩ := H
 replace H : ((wide_Of.f a2).bind fun bt785 => ((tumblerref01_Of.f a2).bind fun bt787 => (if (bt785.1 == bt787.1 && (bt785.2 == bt787.2)) = true then (if t765 = t767 then (if (t766 == t768) = true then ((wide_Cmp.f a0_0 a0_1 a1_0 a1_1).bind fun t789 => ((tumblerref01_Cmp.f k a0_0 a0_1 a1_0 a1_1).bind fun t790 => (if t789 = t790 then ((wide_Sign.f a0_0 a0_1).bind fun t791 => ((tumblerref01_Sign.f k a0_0 a0_1).bind fun t792 => (if t791 = t792 then (if (t769 == t773 && (t770 == t774)) = true then (if t771 = t775 then (if (t777 == t781 && (t778 == t782)) = true then (if t779 = t783 then ((tumblerlaw01_alive.f k).bind fun t793 => (some t793)) else (some false)) else (some false)) else (some false)) else (some false)) else (some false)))) else (some false)))) else (some false)) else (some false)) else (some false)))) = some r := H
 have A9 := Aside0.mk A90; clear A90
 replace H := Option.bind_eq_some_iff.mp H
 obtain ⟨⟨t785, t786⟩, A100, H⟩ := H
 replace H : ((tumblerref01_Of.f a2).bind fun bt787 => (if (t785 == bt787.1 && (t786 == bt787.2)) = true then (if t765 = t767 then (if (t766 == t768) = true then ((wide_Cmp.f a0_0 a0_1 a1_0 a1_1).bind fun t789 => ((tumblerref01_Cmp.f k a0_0 a0_1 a1_0 a1_1).bind fun t790 => (if t789 = t790 then ((wide_Sign.f a0_0 a0_1).bind fun t791 => ((tumblerref01_Sign.f k a0_0 a0_1).bind fun t792 => (if t791 = t792 then (if (t769 == t773 && (t770 == t774)) = true then (if t771 = t775 then (if (t777 == t781 && (t778 == t782)) = true then (if t779 = t783 then ((tumblerlaw01_alive.f k).bind fun t793 => (some t793)) else (some false)) else (some false)) else (some false)) else (some false)) else (some false)))) else (some false)))) else (some false)) else (some false)) else (some false))) = some r := H
 have A10 := Aside0.mk A100; clear A100
 replace H := Option.bind_eq_some_iff.mp H
 obtain ⟨⟨t787, t788⟩, A110, H⟩ := H
 replace H : (if (t785 == t787 && (t786 == t788)) = true then (if t765 = t767 then (if (t766 == t768) = true then ((wide_Cmp.f a0_0 a0_1 a1_0 a1_1).bind fun t789 => ((tumblerref01_Cmp.f k a0_0 a0_1 a1_0 a1_1).bind fun t790 => (if t789 = t790 then ((wide_Sign.f a0_0 a0_1).bind fun t791 => ((tumblerref01_Sign.f k a0_0 a0_1).bind fun t792 => (if t791 = t792 then (if (t769 == t773 && (t770 == t774)) = true then (if t771 = t775 then (if (t777 == t781 && (t778 == t782)) = true then (if t779 = t783 then ((tumblerlaw01_alive.f k).bind fun t793 => (some t793)) else (some false)) else (some false)) else (some false)) else (some false)) else (some false)))) else (some false)))) else (some false)) else (some false)) else (some false)) = some r := H
 have A11 := Aside0.mk A110; clear A110
 by_cases c12 : (t785 == t787 && (t786 == t788)) = true
 · rw [if_pos c12] at H
   have c12b0 : (t785 == t787 && (t786 == t788)) = true := c12; (try (have c12b1 : decide (t785 = t787 && (t786 == t788)) = true := by simpa using c12)); (try (have c12b2 : (t785 == t787 && (t786 == t788)) = true := by simpa using c12)); clear c12
   by_cases c13 : t765 = t767
   · rw [if_pos c13] at H
     have c13b0 : (t765 == t767) = true := beq_iff_eq.mpr c13; have c13b1 : (t765 != t767) = false := bne_eq_false_iff_eq.mpr c13; clear c13
     by_cases c14 : (t766 == t768) = true
     · rw [if_pos c14] at H
       have c14b0 : (t766 == t768) = true := c14; (try (have c14b1 : decide (t766 = t768) = true := by simpa using c14)); (try (have c14b2 : (t766 == t768) = true := by simpa using c14)); clear c14
       replace H := Option.bind_eq_some_iff.mp H
       obtain ⟨t789, A150, H⟩ := H
       replace H : ((tumblerref01_Cmp.f k a0_0 a0_1 a1_0 a1_1).bind fun t790 => (if t789 = t790 then ((wide_Sign.f a0_0 a0_1).bind fun t791 => ((tumblerref01_Sign.f k a0_0 a0_1).bind fun t792 => (if t791 = t792 then (if (t769 == t773 && (t770 == t774)) = true then (if t771 = t775 then (if (t777 == t781 && (t778 == t782)) = true then (if t779 = t783 then ((tumblerlaw01_alive.f k).bind fun t793 => (some t793)) else (some false)) else (some false)) else (some false)) else (some false)) else (some false)))) else (some false))) = some r := H
       have A15 := Aside0.mk A150; clear A150
       replace H := Option.bind_eq_some_iff.mp H
       obtain ⟨t790, A160, H⟩ := H
       replace H : (if t789 = t790 then ((wide_Sign.f a0_0 a0_1).bind fun t791 => ((tumblerref01_Sign.f k a0_0 a0_1).bind fun t792 => (if t791 = t792 then (if (t769 == t773 && (t770 == t774)) = true then (if t771 = t775 then (if (t777 == t781 && (t778 == t782)) = true then (if t779 = t783 then ((tumblerlaw01_alive.f k).bind fun t793 => (some t793)) else (some false)) else (some false)) else (some false)) else (some false)) else (some false)))) else (some false)) = some r := H
       have A16 := Aside0.mk A160; clear A160
       by_cases c17 : t789 = t790
       · rw [if_pos c17] at H
         have c17b0 : (t789 == t790) = true := beq_iff_eq.mpr c17; have c17b1 : (t789 != t790) = false := bne_eq_false_iff_eq.mpr c17; clear c17
         replace H := Option.bind_eq_some_iff.mp H
         obtain ⟨t791, A180, H⟩ := H
         replace H : ((tumblerref01_Sign.f k a0_0 a0_1).bind fun t792 => (if t791 = t792 then (if (t769 == t773 && (t770 == t774)) = true then (if t771 = t775 then (if (t777 == t781 && (t778 == t782)) = true then (if t779 = t783 then ((tumblerlaw01_alive.f k).bind fun t793 => (some t793)) else (some false)) else (some false)) else (some false)) else (some false)) else (some false))) = some r := H
         have A18 := Aside0.mk A180; clear A180
         replace H := Option.bind_eq_some_iff.mp H
         obtain ⟨t792, A190, H⟩ := H
         replace H : (if t791 = t792 then (if (t769 == t773 && (t770 == t774)) = true then (if t771 = t775 then (if (t777 == t781 && (t778 == t782)) = true then (if t779 = t783 then ((tumblerlaw01_alive.f k).bind fun t793 => (some t793)) else (some false)) else (some false)) else (some false)) else (some false)) else (some false)) = some r := H
         have A19 := Aside0.mk A190; clear A190
         by_cases c20 : t791 = t792
         · rw [if_pos c20] at H
           have c20b0 : (t791 == t792) = true := beq_iff_eq.mpr c20; have c20b1 : (t791 != t792) = false := bne_eq_false_iff_eq.mpr c20; clear c20
           by_cases c21 : (t769 == t773 && (t770 == t774)) = true
           · rw [if_pos c21] at H
             have c21b0 : (t769 == t773 && (t770 == t774)) = true := c21; (try (have c21b1 : decide (t769 = t773 && (t770 == t774)) = true := by simpa using c21)); (try (have c21b2 : (t769 == t773 && (t770 == t774)) = true := by simpa using c21)); clear c21
             by_cases c22 : t771 = t775
             · rw [if_pos c22] at H
               have c22b0 : (t771 == t775) = true := beq_iff_eq.mpr c22; have c22b1 : (t771 != t775) = false := bne_eq_false_iff_eq.mpr c22; clear c22
               by_cases c23 : (t777 == t781 && (t778 == t782)) = true
               · rw [if_pos c23] at H
                 have c23b0 : (t777 == t781 && (t778 == t782)) = true := c23; (try (have c23b1 : decide (t777 = t781 && (t778 == t782)) = true := by simpa using c23)); (try (have c23b2 : (t777 == t781 && (t778 == t782)) = true := by simpa using c23)); clear c23
                 by_cases c24 : t779 = t783
                 · rw [if_pos c24] at H
                   have c24b0 : (t779 == t783) = true := beq_iff_eq.mpr c24; have c24b1 : (t779 != t783) = false := bne_eq_false_iff_eq.mpr c24; clear c24
                   replace H := Option.bind_eq_some_iff.mp H
                   obtain ⟨t793, A250, H⟩ := H
                   replace H : (some t793) = some r := H
                   have A25 := Aside0.mk A250; clear A250
                   obtain rfl := Option.some.inj H
                   go_enter Tryd.func12, Tryd.ntmps12
                   try go_wp2_with (first | ((with_reducible refine gate_dst (N := 3) rfl ?_); refine box_event ?hg (N := 3) ?hd (cs := #[.int .i64 a0_0, .int .u64 a0_1]) (t := 24) ?hr ?_; (case hd => rfl); (case hg => rfl); (case hr => first | (go_simp; done) | (go_simp; rfl)); intro gb763 hg w26 hbox hb; have n0_ := am (below_step bz hb); have n1_ := am (hbox); have n2_ := am ((by rw [hg]; exact (below_size bz) : w.heap.size ≤ gb763)); have n3_ := am ((by rw [hg]; exact (below_size bz) : w.heap.size ≤ gb763)); clear HB; have HB := n0_; have BK763 := n1_; have GW763 := n2_; have GE763 := n3_; clear n0_ n1_ n2_ n3_; clear hb hbox hg) | ((with_reducible refine gate_dst (N := 4) rfl ?_); refine box_event ?hg (N := 4) ?hd (cs := #[.int .i64 a1_0, .int .u64 a1_1]) (t := 24) ?hr ?_; (case hd => rfl); (case hg => rfl); (case hr => first | (go_simp; done) | (go_simp; rfl)); intro gb764 hg w27 hbox hb; have n0_ := am (bb BK763 hb); have n1_ := am (below_step bz hb); have n2_ := am (hbox); have n3_ := am ((by rw [hg]; exact (below_size bz) : w.heap.size ≤ gb764)); have n4_ := am ((by rw [hg]; exact (below_size bz) : w.heap.size ≤ gb764)); have n5_ := am ((by rw [hg]; exact Nat.ne_of_lt (bl BK763) : gb763 ≠ gb764)); have n6_ := am ((by rw [hg]; exact Nat.ne_of_gt (bl BK763) : gb764 ≠ gb763)); clear BK763; clear HB; have BK763 := n0_; have HB := n1_; have BK764 := n2_; have GW764 := n3_; have GE764 := n4_; have NB763_764 := n5_; have NB764_763 := n6_; clear n0_ n1_ n2_ n3_ n4_ n5_ n6_; clear hb hbox hg; have hnb28 := NB763_764.out; have hnc28 := NB764_763.out; have hcz29_0 : w27.cell? ⟨gb763, 0, none⟩ = some (.int .i64 a0_0) := (blk_cell BK763.out 0).trans rfl; have hcz29_1 : w27.cell? ⟨gb763, 1, none⟩ = some (.int .u64 a0_1) := (blk_cell BK763.out 1).trans rfl; have hfz29_0 := blk_frozen BK763.out 0; have hfz29_1 := blk_frozen BK763.out 1) | ((with_reducible refine gate_callee (f := 41) rfl ?_); refine goesL_ (some 21) rfl rfl Tryd.func41 (by kernel_rfl) rfl #[.agg #[.int .i64 a0_0, .int .u64 a0_1]] rfl (by (try simp only [List.map_toArray, List.map_cons, List.map_nil]); first | done | rfl | (simp only [List.length_drop, List.length_take]; rfl)) ?_; (with_reducible refine (wide_Small.calls a0_0 a0_1 t765 t766 _ A4.out).mono ?_); rintro e w30 ⟨rfl, hb⟩; refine ⟨_, rfl, ?_⟩; have n0_ := am (bb BK763 hb); have n1_ := am (bb BK764 hb); have n2_ := am (below_step bz hb); clear BK763; clear BK764; clear HB; have BK763 := n0_; have BK764 := n1_; have HB := n2_; clear n0_ n1_ n2_; (try clear hb); (try clear hb2); (try clear hk); (try clear hi); have hcz31_0 : w30.cell? ⟨gb763, 0, none⟩ = some (.int .i64 a0_0) := (blk_cell BK763.out 0).trans rfl; have hcz31_1 : w30.cell? ⟨gb763, 1, none⟩ = some (.int .u64 a0_1) := (blk_cell BK763.out 1).trans rfl; have hfz31_0 := blk_frozen BK763.out 0; have hfz31_1 := blk_frozen BK763.out 1) | ((with_reducible refine gate_callee (f := 42) rfl ?_); refine goesL_ (some 26) rfl rfl Tryd.func42 (by kernel_rfl) rfl #[.agg #[.int .i64 a0_0, .int .u64 a0_1]] rfl (by (try simp only [List.map_toArray, List.map_cons, List.map_nil]); first | done | rfl | (simp only [List.length_drop, List.length_take]; rfl)) ?_; (with_reducible refine (tumblerref01_Small.calls a0_0 a0_1 t767 t768 _ A5.out).mono ?_); rintro e w32 ⟨rfl, hb⟩; refine ⟨_, rfl, ?_⟩; have n0_ := am (bb BK763 hb); have n1_ := am (bb BK764 hb); have n2_ := am (below_step bz hb); clear BK763; clear BK764; clear HB; have BK763 := n0_; have BK764 := n1_; have HB := n2_; clear n0_ n1_ n2_; (try clear hb); (try clear hb2); (try clear hk); (try clear hi); have hcz33_0 : w32.cell? ⟨gb763, 0, none⟩ = some (.int .i64 a0_0) := (blk_cell BK763.out 0).trans rfl; have hcz33_1 : w32.cell? ⟨gb763, 1, none⟩ = some (.int .u64 a0_1) := (blk_cell BK763.out 1).trans rfl; have hfz33_0 := blk_frozen BK763.out 0; have hfz33_1 := blk_frozen BK763.out 1) | ((with_reducible refine gate_callee (f := 43) rfl ?_); refine goesL_ (some 31) rfl rfl Tryd.func43 (by kernel_rfl) rfl #[.agg #[.int .i64 a0_0, .int .u64 a0_1]] rfl (by (try simp only [List.map_toArray, List.map_cons, List.map_nil]); first | done | rfl | (simp only [List.length_drop, List.length_take]; rfl)) ?_; (with_reducible refine (wide_Neg.calls a0_0 a0_1 t769 t770 t771 _ A6.out).mono ?_); rintro e w34 ⟨rfl, hb⟩; refine ⟨_, rfl, ?_⟩; have n0_ := am (bb BK763 hb); have n1_ := am (bb BK764 hb); have n2_ := am (below_step bz hb); clear BK763; clear BK764; clear HB; have BK763 := n0_; have BK764 := n1_; have HB := n2_; clear n0_ n1_ n2_; (try clear hb); (try clear hb2); (try clear hk); (try clear hi)) | ((with_reducible refine gate_dst (N := 11) rfl ?_); refine box_event ?hg (N := 11) ?hd (cs := #[.int .i64 0, .int .u64 0]) (t := 24) ?hr ?_; (case hd => rfl); (case hg => rfl); (case hr => first | (go_simp; done) | (go_simp; rfl)); intro gb772 hg w35 hbox hb; have n0_ := am (bb BK763 hb); have n1_ := am (bb BK764 hb); have n2_ := am (below_step bz hb); have n3_ := am (hbox); have n4_ := am ((by rw [hg]; exact (below_size bz) : w.heap.size ≤ gb772)); have n5_ := am ((by rw [hg]; exact (below_size bz) : w.heap.size ≤ gb772)); have n6_ := am ((by rw [hg]; exact Nat.ne_of_lt (bl BK763) : gb763 ≠ gb772)); have n7_ := am ((by rw [hg]; exact Nat.ne_of_gt (bl BK763) : gb772 ≠ gb763)); have n8_ := am ((by rw [hg]; exact Nat.ne_of_lt (bl BK764) : gb764 ≠ gb772)); have n9_ := am ((by rw [hg]; exact Nat.ne_of_gt (bl BK764) : gb772 ≠ gb764)); clear BK763; clear BK764; clear HB; have BK763 := n0_; have BK764 := n1_; have HB := n2_; have BK772 := n3_; have GW772 := n4_; have GE772 := n5_; have NB763_772 := n6_; have NB772_763 := n7_; have NB764_772 := n8_; have NB772_764 := n9_; clear n0_ n1_ n2_ n3_ n4_ n5_ n6_ n7_ n8_ n9_; clear hb hbox hg; have hnb36 := NB772_763.out; have hnc36 := NB763_772.out; have hnb37 := NB772_764.out; have hnc37 := NB764_772.out; have hcz38_0 : w35.cell? ⟨gb772, 0, none⟩ = some (.int .i64 0) := (blk_cell BK772.out 0).trans rfl; have hcz38_1 : w35.cell? ⟨gb772, 1, none⟩ = some (.int .u64 0) := (blk_cell BK772.out 1).trans rfl; have hfz38_0 := blk_frozen BK772.out 0; have hfz38_1 := blk_frozen BK772.out 1; have hcz39_0 : w35.cell? ⟨gb763, 0, none⟩ = some (.int .i64 a0_0) := (blk_cell BK763.out 0).trans rfl; have hcz39_1 : w35.cell? ⟨gb763, 1, none⟩ = some (.int .u64 a0_1) := (blk_cell BK763.out 1).trans rfl; have hfz39_0 := blk_frozen BK763.out 0; have hfz39_1 := blk_frozen BK763.out 1) | ((with_reducible refine gate_callee (f := 44) rfl ?_); refine goesL_ (some 36) rfl rfl Tryd.func44 (by kernel_rfl) rfl #[.agg #[.int .i64 a0_0, .int .u64 a0_1]] rfl (by (try simp only [List.map_toArray, List.map_cons, List.map_nil]); first | done | rfl | (simp only [List.length_drop, List.length_take]; rfl)) ?_; (with_reducible refine (tumblerref01_Neg.calls k a0_0 a0_1 t773 t774 t775 _ A7.out).mono ?_); rintro e w40 ⟨rfl, hb⟩; refine ⟨_, rfl, ?_⟩; have n0_ := am (blk_below (g := gb763) (o := .cells #[.int .i64 a0_0, .int .u64 a0_1] 24 (0, 0)) (by (with_reducible repeat (first | apply bA | apply bB | apply bC)); refine blk_far ?_ NB763_772.out _; (with_reducible repeat (first | apply bA | apply bB | apply bC)); refine blk_far ?_ NB763_772.out _; (with_reducible repeat (first | apply bA | apply bB | apply bC)); exact BK763.out) hb); have n1_ := am (blk_below (g := gb764) (o := .cells #[.int .i64 a1_0, .int .u64 a1_1] 24 (0, 0)) (by (with_reducible repeat (first | apply bA | apply bB | apply bC)); refine blk_far ?_ NB764_772.out _; (with_reducible repeat (first | apply bA | apply bB | apply bC)); refine blk_far ?_ NB764_772.out _; (with_reducible repeat (first | apply bA | apply bB | apply bC)); exact BK764.out) hb); have n2_ := am (blk_below (g := gb772) (o := .cells #[.int .i64 t769, .int .u64 t770] 24 (0, 0)) (by (with_reducible repeat (first | apply bA | apply bB | apply bC)); refine blk_put (cs := #[.int .i64 t769, .int .u64 0]) ?_ 1 _ rfl; (with_reducible repeat (first | apply bA | apply bB | apply bC)); refine blk_put (cs := #[.int .i64 0, .int .u64 0]) ?_ 0 _ rfl; (with_reducible repeat (first | apply bA | apply bB | apply bC)); exact BK772.out) hb); have n3_ := am (below_step bz hb); clear BK763; clear BK764; clear BK772; clear HB; have BK763 := n0_; have BK764 := n1_; have BK772 := n2_; have HB := n3_; clear n0_ n1_ n2_ n3_; (try clear hb); (try clear hb2); (try clear hk); (try clear hi)) | ((with_reducible refine gate_dst (N := 13) rfl ?_); refine box_event ?hg (N := 13) ?hd (cs := #[.int .i64 0, .int .u64 0]) (t := 24) ?hr ?_; (case hd => rfl); (case hg => rfl); (case hr => first | (go_simp; done) | (go_simp; rfl)); intro gb776 hg w41 hbox hb; have n0_ := am (bb BK763 hb); have n1_ := am (bb BK764 hb); have n2_ := am (bb BK772 hb); have n3_ := am (below_step bz hb); have n4_ := am (hbox); have n5_ := am ((by rw [hg]; exact (below_size bz) : w.heap.size ≤ gb776)); have n6_ := am ((by rw [hg]; exact (below_size bz) : w.heap.size ≤ gb776)); have n7_ := am ((by rw [hg]; exact Nat.ne_of_lt (bl BK763) : gb763 ≠ gb776)); have n8_ := am ((by rw [hg]; exact Nat.ne_of_gt (bl BK763) : gb776 ≠ gb763)); have n9_ := am ((by rw [hg]; exact Nat.ne_of_lt (bl BK764) : gb764 ≠ gb776)); have n10_ := am ((by rw [hg]; exact Nat.ne_of_gt (bl BK764) : gb776 ≠ gb764)); have n11_ := am ((by rw [hg]; exact Nat.ne_of_lt (bl BK772) : gb772 ≠ gb776)); have n12_ := am ((by rw [hg]; exact Nat.ne_of_gt (bl BK772) : gb776 ≠ gb772)); clear BK763; clear BK764; clear BK772; clear HB; have BK763 := n0_; have BK764 := n1_; have BK772 := n2_; have HB := n3_; have BK776 := n4_; have GW776 := n5_; have GE776 := n6_; have NB763_776 := n7_; have NB776_763 := n8_; have NB764_776 := n9_; have NB776_764 := n10_; have NB772_776 := n11_; have NB776_772 := n12_; clear n0_ n1_ n2_ n3_ n4_ n5_ n6_ n7_ n8_ n9_ n10_ n11_ n12_; clear hb hbox hg; have hnb42 := NB776_763.out; have hnc42 := NB763_776.out; have hnb43 := NB776_764.out; have hnc43 := NB764_776.out; have hnb44 := NB776_772.out; have hnc44 := NB772_776.out; have hcz45_0 : w41.cell? ⟨gb776, 0, none⟩ = some (.int .i64 0) := (blk_cell BK776.out 0).trans rfl; have hcz45_1 : w41.cell? ⟨gb776, 1, none⟩ = some (.int .u64 0) := (blk_cell BK776.out 1).trans rfl; have hfz45_0 := blk_frozen BK776.out 0; have hfz45_1 := blk_frozen BK776.out 1; have hcz46_0 : w41.cell? ⟨gb763, 0, none⟩ = some (.int .i64 a0_0) := (blk_cell BK763.out 0).trans rfl; have hcz46_1 : w41.cell? ⟨gb763, 1, none⟩ = some (.int .u64 a0_1) := (blk_cell BK763.out 1).trans rfl; have hfz46_0 := blk_frozen BK763.out 0; have hfz46_1 := blk_frozen BK763.out 1) | ((with_reducible refine gate_callee (f := 45) rfl ?_); refine goesL_ (some 41) rfl rfl Tryd.func45 (by kernel_rfl) rfl #[.agg #[.int .i64 a0_0, .int .u64 a0_1]] rfl (by (try simp only [List.map_toArray, List.map_cons, List.map_nil]); first | done | rfl | (simp only [List.length_drop, List.length_take]; rfl)) ?_; (with_reducible refine (wide_Abs.calls a0_0 a0_1 t777 t778 t779 _ A8.out).mono ?_); rintro e w47 ⟨rfl, hb⟩; refine ⟨_, rfl, ?_⟩; have n0_ := am (blk_below (g := gb763) (o := .cells #[.int .i64 a0_0, .int .u64 a0_1] 24 (0, 0)) (by (with_reducible repeat (first | apply bA | apply bB | apply bC)); refine blk_far ?_ NB763_776.out _; (with_reducible repeat (first | apply bA | apply bB | apply bC)); refine blk_far ?_ NB763_776.out _; (with_reducible repeat (first | apply bA | apply bB | apply bC)); exact BK763.out) hb); have n1_ := am (blk_below (g := gb764) (o := .cells #[.int .i64 a1_0, .int .u64 a1_1] 24 (0, 0)) (by (with_reducible repeat (first | apply bA | apply bB | apply bC)); refine blk_far ?_ NB764_776.out _; (with_reducible repeat (first | apply bA | apply bB | apply bC)); refine blk_far ?_ NB764_776.out _; (with_reducible repeat (first | apply bA | apply bB | apply bC)); exact BK764.out) hb); have n2_ := am (blk_below (g := gb772) (o := .cells #[.int .i64 t769, .int .u64 t770] 24 (0, 0)) (by (with_reducible repeat (first | apply bA | apply bB | apply bC)); refine blk_far ?_ NB772_776.out _; (with_reducible repeat (first | apply bA | apply bB | apply bC)); refine blk_far ?_ NB772_776.out _; (with_reducible repeat (first | apply bA | apply bB | apply bC)); exact BK772.out) hb); have n3_ := am (blk_below (g := gb776) (o := .cells #[.int .i64 t773, .int .u64 t774] 24 (0, 0)) (by (with_reducible repeat (first | apply bA | apply bB | apply bC)); refine blk_put (cs := #[.int .i64 t773, .int .u64 0]) ?_ 1 _ rfl; (with_reducible repeat (first | apply bA | apply bB | apply bC)); refine blk_put (cs := #[.int .i64 0, .int .u64 0]) ?_ 0 _ rfl; (with_reducible repeat (first | apply bA | apply bB | apply bC)); exact BK776.out) hb); have n4_ := am (below_step bz hb); clear BK763; clear BK764; clear BK772; clear BK776; clear HB; have BK763 := n0_; have BK764 := n1_; have BK772 := n2_; have BK776 := n3_; have HB := n4_; clear n0_ n1_ n2_ n3_ n4_; (try clear hb); (try clear hb2); (try clear hk); (try clear hi)) | ((with_reducible refine gate_dst (N := 15) rfl ?_); refine box_event ?hg (N := 15) ?hd (cs := #[.int .i64 0, .int .u64 0]) (t := 24) ?hr ?_; (case hd => rfl); (case hg => rfl); (case hr => first | (go_simp; done) | (go_simp; rfl)); intro gb780 hg w48 hbox hb; have n0_ := am (bb BK763 hb); have n1_ := am (bb BK764 hb); have n2_ := am (bb BK772 hb); have n3_ := am (bb BK776 hb); have n4_ := am (below_step bz hb); have n5_ := am (hbox); have n6_ := am ((by rw [hg]; exact (below_size bz) : w.heap.size ≤ gb780)); have n7_ := am ((by rw [hg]; exact (below_size bz) : w.heap.size ≤ gb780)); have n8_ := am ((by rw [hg]; exact Nat.ne_of_lt (bl BK763) : gb763 ≠ gb780)); have n9_ := am ((by rw [hg]; exact Nat.ne_of_gt (bl BK763) : gb780 ≠ gb763)); have n10_ := am ((by rw [hg]; exact Nat.ne_of_lt (bl BK764) : gb764 ≠ gb780)); have n11_ := am ((by rw [hg]; exact Nat.ne_of_gt (bl BK764) : gb780 ≠ gb764)); have n12_ := am ((by rw [hg]; exact Nat.ne_of_lt (bl BK772) : gb772 ≠ gb780)); have n13_ := am ((by rw [hg]; exact Nat.ne_of_gt (bl BK772) : gb780 ≠ gb772)); have n14_ := am ((by rw [hg]; exact Nat.ne_of_lt (bl BK776) : gb776 ≠ gb780)); have n15_ := am ((by rw [hg]; exact Nat.ne_of_gt (bl BK776) : gb780 ≠ gb776)); clear BK763; clear BK764; clear BK772; clear BK776; clear HB; have BK763 := n0_; have BK764 := n1_; have BK772 := n2_; have BK776 := n3_; have HB := n4_; have BK780 := n5_; have GW780 := n6_; have GE780 := n7_; have NB763_780 := n8_; have NB780_763 := n9_; have NB764_780 := n10_; have NB780_764 := n11_; have NB772_780 := n12_; have NB780_772 := n13_; have NB776_780 := n14_; have NB780_776 := n15_; clear n0_ n1_ n2_ n3_ n4_ n5_ n6_ n7_ n8_ n9_ n10_ n11_ n12_ n13_ n14_ n15_; clear hb hbox hg; have hnb49 := NB780_763.out; have hnc49 := NB763_780.out; have hnb50 := NB780_764.out; have hnc50 := NB764_780.out; have hnb51 := NB780_772.out; have hnc51 := NB772_780.out; have hnb52 := NB780_776.out; have hnc52 := NB776_780.out; have hcz53_0 : w48.cell? ⟨gb780, 0, none⟩ = some (.int .i64 0) := (blk_cell BK780.out 0).trans rfl; have hcz53_1 : w48.cell? ⟨gb780, 1, none⟩ = some (.int .u64 0) := (blk_cell BK780.out 1).trans rfl; have hfz53_0 := blk_frozen BK780.out 0; have hfz53_1 := blk_frozen BK780.out 1; have hcz54_0 : w48.cell? ⟨gb763, 0, none⟩ = some (.int .i64 a0_0) := (blk_cell BK763.out 0).trans rfl; have hcz54_1 : w48.cell? ⟨gb763, 1, none⟩ = some (.int .u64 a0_1) := (blk_cell BK763.out 1).trans rfl; have hfz54_0 := blk_frozen BK763.out 0; have hfz54_1 := blk_frozen BK763.out 1) | ((with_reducible refine gate_callee (f := 46) rfl ?_); refine goesL_ (some 46) rfl rfl Tryd.func46 (by kernel_rfl) rfl #[.agg #[.int .i64 a0_0, .int .u64 a0_1]] rfl (by (try simp only [List.map_toArray, List.map_cons, List.map_nil]); first | done | rfl | (simp only [List.length_drop, List.length_take]; rfl)) ?_; (with_reducible refine (tumblerref01_Abs.calls k a0_0 a0_1 t781 t782 t783 _ A9.out).mono ?_); rintro e w55 ⟨rfl, hb⟩; refine ⟨_, rfl, ?_⟩; have n0_ := am (blk_below (g := gb763) (o := .cells #[.int .i64 a0_0, .int .u64 a0_1] 24 (0, 0)) (by (with_reducible repeat (first | apply bA | apply bB | apply bC)); refine blk_far ?_ NB763_780.out _; (with_reducible repeat (first | apply bA | apply bB | apply bC)); refine blk_far ?_ NB763_780.out _; (with_reducible repeat (first | apply bA | apply bB | apply bC)); exact BK763.out) hb); have n1_ := am (blk_below (g := gb764) (o := .cells #[.int .i64 a1_0, .int .u64 a1_1] 24 (0, 0)) (by (with_reducible repeat (first | apply bA | apply bB | apply bC)); refine blk_far ?_ NB764_780.out _; (with_reducible repeat (first | apply bA | apply bB | apply bC)); refine blk_far ?_ NB764_780.out _; (with_reducible repeat (first | apply bA | apply bB | apply bC)); exact BK764.out) hb); have n2_ := am (blk_below (g := gb772) (o := .cells #[.int .i64 t769, .int .u64 t770] 24 (0, 0)) (by (with_reducible repeat (first | apply bA | apply bB | apply bC)); refine blk_far ?_ NB772_780.out _; (with_reducible repeat (first | apply bA | apply bB | apply bC)); refine blk_far ?_ NB772_780.out _; (with_reducible repeat (first | apply bA | apply bB | apply bC)); exact BK772.out) hb); have n3_ := am (blk_below (g := gb776) (o := .cells #[.int .i64 t773, .int .u64 t774] 24 (0, 0)) (by (with_reducible repeat (first | apply bA | apply bB | apply bC)); refine blk_far ?_ NB776_780.out _; (with_reducible repeat (first | apply bA | apply bB | apply bC)); refine blk_far ?_ NB776_780.out _; (with_reducible repeat (first | apply bA | apply bB | apply bC)); exact BK776.out) hb); have n4_ := am (blk_below (g := gb780) (o := .cells #[.int .i64 t777, .int .u64 t778] 24 (0, 0)) (by (with_reducible repeat (first | apply bA | apply bB | apply bC)); refine blk_put (cs := #[.int .i64 t777, .int .u64 0]) ?_ 1 _ rfl; (with_reducible repeat (first | apply bA | apply bB | apply bC)); refine blk_put (cs := #[.int .i64 0, .int .u64 0]) ?_ 0 _ rfl; (with_reducible repeat (first | apply bA | apply bB | apply bC)); exact BK780.out) hb); have n5_ := am (below_step bz hb); clear BK763; clear BK764; clear BK772; clear BK776; clear BK780; clear HB; have BK763 := n0_; have BK764 := n1_; have BK772 := n2_; have BK776 := n3_; have BK780 := n4_; have HB := n5_; clear n0_ n1_ n2_ n3_ n4_ n5_; (try clear hb); (try clear hb2); (try clear hk); (try clear hi)) | ((with_reducible refine gate_dst (N := 17) rfl ?_); refine box_event ?hg (N := 17) ?hd (cs := #[.int .i64 0, .int .u64 0]) (t := 24) ?hr ?_; (case hd => rfl); (case hg => rfl); (case hr => first | (go_simp; done) | (go_simp; rfl)); intro gb784 hg w56 hbox hb; have n0_ := am (bb BK763 hb); have n1_ := am (bb BK764 hb); have n2_ := am (bb BK772 hb); have n3_ := am (bb BK776 hb); have n4_ := am (bb BK780 hb); have n5_ := am (below_step bz hb); have n6_ := am (hbox); have n7_ := am ((by rw [hg]; exact (below_size bz) : w.heap.size ≤ gb784)); have n8_ := am ((by rw [hg]; exact (below_size bz) : w.heap.size ≤ gb784)); have n9_ := am ((by rw [hg]; exact Nat.ne_of_lt (bl BK763) : gb763 ≠ gb784)); have n10_ := am ((by rw [hg]; exact Nat.ne_of_gt (bl BK763) : gb784 ≠ gb763)); have n11_ := am ((by rw [hg]; exact Nat.ne_of_lt (bl BK764) : gb764 ≠ gb784)); have n12_ := am ((by rw [hg]; exact Nat.ne_of_gt (bl BK764) : gb784 ≠ gb764)); have n13_ := am ((by rw [hg]; exact Nat.ne_of_lt (bl BK772) : gb772 ≠ gb784)); have n14_ := am ((by rw [hg]; exact Nat.ne_of_gt (bl BK772) : gb784 ≠ gb772)); have n15_ := am ((by rw [hg]; exact Nat.ne_of_lt (bl BK776) : gb776 ≠ gb784)); have n16_ := am ((by rw [hg]; exact Nat.ne_of_gt (bl BK776) : gb784 ≠ gb776)); have n17_ := am ((by rw [hg]; exact Nat.ne_of_lt (bl BK780) : gb780 ≠ gb784)); have n18_ := am ((by rw [hg]; exact Nat.ne_of_gt (bl BK780) : gb784 ≠ gb780)); clear BK763; clear BK764; clear BK772; clear BK776; clear BK780; clear HB; have BK763 := n0_; have BK764 := n1_; have BK772 := n2_; have BK776 := n3_; have BK780 := n4_; have HB := n5_; have BK784 := n6_; have GW784 := n7_; have GE784 := n8_; have NB763_784 := n9_; have NB784_763 := n10_; have NB764_784 := n11_; have NB784_764 := n12_; have NB772_784 := n13_; have NB784_772 := n14_; have NB776_784 := n15_; have NB784_776 := n16_; have NB780_784 := n17_; have NB784_780 := n18_; clear n0_ n1_ n2_ n3_ n4_ n5_ n6_ n7_ n8_ n9_ n10_ n11_ n12_ n13_ n14_ n15_ n16_ n17_ n18_; clear hb hbox hg; have hnb57 := NB784_763.out; have hnc57 := NB763_784.out; have hnb58 := NB784_764.out; have hnc58 := NB764_784.out; have hnb59 := NB784_772.out; have hnc59 := NB772_784.out; have hnb60 := NB784_776.out; have hnc60 := NB776_784.out; have hnb61 := NB784_780.out; have hnc61 := NB780_784.out; have hcz62_0 : w56.cell? ⟨gb784, 0, none⟩ = some (.int .i64 0) := (blk_cell BK784.out 0).trans rfl; have hcz62_1 : w56.cell? ⟨gb784, 1, none⟩ = some (.int .u64 0) := (blk_cell BK784.out 1).trans rfl; have hfz62_0 := blk_frozen BK784.out 0; have hfz62_1 := blk_frozen BK784.out 1))
                   have n0_ : Aside0 (((w56.setCell ⟨gb784, 0, none⟩ (.int .i64 t781)).setCell ⟨gb784, 1, none⟩ (.int .u64 t782)).heap[gb763]? = some (.cells #[.int .i64 a0_0, .int .u64 a0_1] 24 (0, 0))) := ⟨by (with_reducible repeat (first | apply bA | apply bB | apply bC)); refine blk_far ?_ NB763_784.out _; (with_reducible repeat (first | apply bA | apply bB | apply bC)); refine blk_far ?_ NB763_784.out _; (with_reducible repeat (first | apply bA | apply bB | apply bC)); exact BK763.out⟩; have n1_ : Aside0 (((w56.setCell ⟨gb784, 0, none⟩ (.int .i64 t781)).setCell ⟨gb784, 1, none⟩ (.int .u64 t782)).heap[gb764]? = some (.cells #[.int .i64 a1_0, .int .u64 a1_1] 24 (0, 0))) := ⟨by (with_reducible repeat (first | apply bA | apply bB | apply bC)); refine blk_far ?_ NB764_784.out _; (with_reducible repeat (first | apply bA | apply bB | apply bC)); refine blk_far ?_ NB764_784.out _; (with_reducible repeat (first | apply bA | apply bB | apply bC)); exact BK764.out⟩; have n2_ : Aside0 (((w56.setCell ⟨gb784, 0, none⟩ (.int .i64 t781)).setCell ⟨gb784, 1, none⟩ (.int .u64 t782)).heap[gb772]? = some (.cells #[.int .i64 t769, .int .u64 t770] 24 (0, 0))) := ⟨by (with_reducible repeat (first | apply bA | apply bB | apply bC)); refine blk_far ?_ NB772_784.out _; (with_reducible repeat (first | apply bA | apply bB | apply bC)); refine blk_far ?_ NB772_784.out _; (with_reducible repeat (first | apply bA | apply bB | apply bC)); exact BK772.out⟩; have n3_ : Aside0 (((w56.setCell ⟨gb784, 0, none⟩ (.int .i64 t781)).setCell ⟨gb784, 1, none⟩ (.int .u64 t782)).heap[gb776]? = some (.cells #[.int .i64 t773, .int .u64 t774] 24 (0, 0))) := ⟨by (with_reducible repeat (first | apply bA | apply bB | apply bC)); refine blk_far ?_ NB776_784.out _; (with_reducible repeat (first | apply bA | apply bB | apply bC)); refine blk_far ?_ NB776_784.out _; (with_reducible repeat (first | apply bA | apply bB | apply bC)); exact BK776.out⟩; have n4_ : Aside0 (((w56.setCell ⟨gb784, 0, none⟩ (.int .i64 t781)).setCell ⟨gb784, 1, none⟩ (.int .u64 t782)).heap[gb780]? = some (.cells #[.int .i64 t777, .int .u64 t778] 24 (0, 0))) := ⟨by (with_reducible repeat (first | apply bA | apply bB | apply bC)); refine blk_far ?_ NB780_784.out _; (with_reducible repeat (first | apply bA | apply bB | apply bC)); refine blk_far ?_ NB780_784.out _; (with_reducible repeat (first | apply bA | apply bB | apply bC)); exact BK780.out⟩; have n5_ : Aside0 (((w56.setCell ⟨gb784, 0, none⟩ (.int .i64 t781)).setCell ⟨gb784, 1, none⟩ (.int .u64 t782)).heap[gb784]? = some (.cells #[.int .i64 t781, .int .u64 t782] 24 (0, 0))) := ⟨by (with_reducible repeat (first | apply bA | apply bB | apply bC)); refine blk_put (cs := #[.int .i64 t781, .int .u64 0]) ?_ 1 _ rfl; (with_reducible repeat (first | apply bA | apply bB | apply bC)); refine blk_put (cs := #[.int .i64 0, .int .u64 0]) ?_ 0 _ rfl; (with_reducible repeat (first | apply bA | apply bB | apply bC)); exact BK784.out⟩; have n6_ : Aside0 (Below w.heap.size w ((w56.setCell ⟨gb784, 0, none⟩ (.int .i64 t781)).setCell ⟨gb784, 1, none⟩ (.int .u64 t782))) := ⟨by repeat (first | (with_reducible first | exact HB.out | apply dA | apply dB | apply dC | refine dE ?_ ‹_›) | exact HB.out)⟩; (try clear BK763); (try clear BK764); (try clear BK772); (try clear BK776); (try clear BK780); (try clear BK784); (try clear HB); generalize ((w56.setCell ⟨gb784, 0, none⟩ (.int .i64 t781)).setCell ⟨gb784, 1, none⟩ (.int .u64 t782)) = w63 at n0_ n1_ n2_ n3_ n4_ n5_ n6_ ⊢; have BK763 := n0_; have BK764 := n1_; have BK772 := n2_; have BK776 := n3_; have BK780 := n4_; have BK784 := n5_; have HB := n6_; clear n0_ n1_ n2_ n3_ n4_ n5_ n6_; have n0_ := am (blk_drew BK763.out); have n1_ := am (blk_drew BK764.out); have n2_ := am (blk_drew BK772.out); have n3_ := am (blk_drew BK776.out); have n4_ := am (blk_drew BK780.out); have n5_ := am (blk_drew BK784.out); have n6_ := am (below_drew1 HB.out); clear BK763 BK764 BK772 BK776 BK780 BK784 HB; have BK763 := n0_; have BK764 := n1_; have BK772 := n2_; have BK776 := n3_; have BK780 := n4_; have BK784 := n5_; have HB := n6_; clear n0_ n1_ n2_ n3_ n4_ n5_ n6_
                   refine start_ (n := 55) (S := fun w' => w'.cell? ⟨gb763, 0, none⟩ = some (.int .i64 a0_0) ∧ w'.cell? ⟨gb763, 1, none⟩ = some (.int .u64 a0_1) ∧ w'.cell? ⟨gb764, 0, none⟩ = some (.int .i64 a1_0) ∧ w'.cell? ⟨gb764, 1, none⟩ = some (.int .u64 a1_1) ∧ w'.cell? ⟨gb772, 0, none⟩ = some (.int .i64 t769) ∧ w'.cell? ⟨gb772, 1, none⟩ = some (.int .u64 t770) ∧ w'.cell? ⟨gb776, 0, none⟩ = some (.int .i64 t773) ∧ w'.cell? ⟨gb776, 1, none⟩ = some (.int .u64 t774) ∧ w'.cell? ⟨gb780, 0, none⟩ = some (.int .i64 t777) ∧ w'.cell? ⟨gb780, 1, none⟩ = some (.int .u64 t778) ∧ w'.cell? ⟨gb784, 0, none⟩ = some (.int .i64 t781) ∧ w'.cell? ⟨gb784, 1, none⟩ = some (.int .u64 t782)) (ds := []) #[false, false, false, false, false, false, false, false, false, false, false, false, false, false, false, false, false, false, false, false, false, false, false, false, false, false, false, false, false, false, false, false, false, false, false, false, false, false, false, false, false, false, false, false, false, false, false, false, false, false, false, false, false, false, false] (by kernel_rfl) rfl rfl ⟨(blk_cell BK763.out 0).trans rfl, (blk_cell BK763.out 1).trans rfl, (blk_cell BK764.out 0).trans rfl, (blk_cell BK764.out 1).trans rfl, (blk_cell BK772.out 0).trans rfl, (blk_cell BK772.out 1).trans rfl, (blk_cell BK776.out 0).trans rfl, (blk_cell BK776.out 1).trans rfl, (blk_cell BK780.out 0).trans rfl, (blk_cell BK780.out 1).trans rfl, (blk_cell BK784.out 0).trans rfl, (blk_cell BK784.out 1).trans rfl⟩ (fun hHeld => ?_); refine with_tabW tumblerlaw01_WideSigns.tab7 tumblerlaw01_WideSigns.bits7 (fun HT_ HW_ => ?_)
                   generalize w63.drew = w64 at BK763 BK764 BK772 BK776 BK780 BK784 HB hHeld ⊢
                   refine pure_ (i := 0) (N := some 49) (v := ?_) (a' := ?_) #[true, false, false, false, false, false, false, false, false, false, false, false, false, false, false, false, false, false, false, false, false, false, false, false, false, false, false, false, false, false, false, false, false, false, false, false, false, false, false, false, false, false, false, false, false, false, false, false, false, false, false, false, false, false, false] rfl rfl (any_of HT_.out (by kernel_rfl)) (fun _ _ _ h => h) (Or.inl ⟨by rfl, ?_⟩) ?_ ?_
                   rotate_left
                   · intro w'
                     go_simp
                     with_reducible rfl
                   rotate_left
                   · simp only [Act.put, List.setIfInBounds_toArray, List.set_cons_zero, List.set_cons_succ, i64_w, i32_w]
                     rfl
                   refine pure_ (i := 2) (N := some 51) (v := ?_) (a' := ?_) #[true, false, true, false, false, false, false, false, false, false, false, false, false, false, false, false, false, false, false, false, false, false, false, false, false, false, false, false, false, false, false, false, false, false, false, false, false, false, false, false, false, false, false, false, false, false, false, false, false, false, false, false, false, false, false] rfl rfl (any_of HT_.out (by kernel_rfl)) (fun _ _ _ h => h) (Or.inl ⟨by rfl, ?_⟩) ?_ ?_
                   rotate_left
                   · intro w'
                     go_simp
                     with_reducible rfl
                   rotate_left
                   · simp only [Act.put, List.setIfInBounds_toArray, List.set_cons_zero, List.set_cons_succ, i64_w, i32_w]
                     rfl
                   refine one_ (i := 1) (N := some 50) #[true, true, true, false, false, false, false, false, false, false, false, false, false, false, false, false, false, false, false, false, false, false, false, false, false, false, false, false, false, false, false, false, false, false, false, false, false, false, false, false, false, false, false, false, false, false, false, false, false, false, false, false, false, false, false] rfl rfl (one_of HT_.out (by kernel_rfl)) (by decide) (fun K hK => ?_)
                   refine goes_ Tryd.func47 (by kernel_rfl) rfl #[.int .i64 a2] (by rfl) rfl rfl (by (try simp only [List.map_toArray, List.map_cons, List.map_nil]); first | done | rfl | (simp only [List.length_drop, List.length_take]; rfl)) ?_
                   with_reducible refine (wide_Of.calls a2 t785 t786 _ A10.out).mono ?_
                   rintro e w65 ⟨rfl, hb⟩; refine ⟨_, rfl, ?_⟩; have n0_ := am (bb BK763 hb); have n1_ := am (bb BK764 hb); have n2_ := am (bb BK772 hb); have n3_ := am (bb BK776 hb); have n4_ := am (bb BK780 hb); have n5_ := am (bb BK784 hb); have n6_ := am (below_step bz hb); clear BK763 BK764 BK772 BK776 BK780 BK784 HB; have BK763 := n0_; have BK764 := n1_; have BK772 := n2_; have BK776 := n3_; have BK780 := n4_; have BK784 := n5_; have HB := n6_; clear n0_ n1_ n2_ n3_ n4_ n5_ n6_; (try clear hb); (try clear hb2); (try clear hk); (try clear hi)
                   refine hK.out _ _ ⟨(blk_cell BK763.out 0).trans rfl, (blk_cell BK763.out 1).trans rfl, (blk_cell BK764.out 0).trans rfl, (blk_cell BK764.out 1).trans rfl, (blk_cell BK772.out 0).trans rfl, (blk_cell BK772.out 1).trans rfl, (blk_cell BK776.out 0).trans rfl, (blk_cell BK776.out 1).trans rfl, (blk_cell BK780.out 0).trans rfl, (blk_cell BK780.out 1).trans rfl, (blk_cell BK784.out 0).trans rfl, (blk_cell BK784.out 1).trans rfl⟩ (fun hHeld => ?_)
                   clear hK K
                   refine norm_ (a' := ?_) ?_ ?_
                   rotate_left
                   · show Act.put _ (some 50) _ = _
                     simp only [Act.put, List.setIfInBounds_toArray, List.set_cons_zero, List.set_cons_succ, i64_w, i32_w]
                     rfl
                   refine one_ (i := 3) (N := some 52) #[true, true, true, true, false, false, false, false, false, false, false, false, false, false, false, false, false, false, false, false, false, false, false, false, false, false, false, false, false, false, false, false, false, false, false, false, false, false, false, false, false, false, false, false, false, false, false, false, false, false, false, false, false, false, false] rfl rfl (one_of HT_.out (by kernel_rfl)) (by decide) (fun K hK => ?_)
                   refine goes_ Tryd.func48 (by kernel_rfl) rfl #[.int .i64 a2] (by rfl) rfl rfl (by (try simp only [List.map_toArray, List.map_cons, List.map_nil]); first | done | rfl | (simp only [List.length_drop, List.length_take]; rfl)) ?_
                   with_reducible refine (tumblerref01_Of.calls a2 t787 t788 _ A11.out).mono ?_
                   rintro e w66 ⟨rfl, hb⟩; refine ⟨_, rfl, ?_⟩; have n0_ := am (bb BK763 hb); have n1_ := am (bb BK764 hb); have n2_ := am (bb BK772 hb); have n3_ := am (bb BK776 hb); have n4_ := am (bb BK780 hb); have n5_ := am (bb BK784 hb); have n6_ := am (below_step bz hb); clear BK763 BK764 BK772 BK776 BK780 BK784 HB; have BK763 := n0_; have BK764 := n1_; have BK772 := n2_; have BK776 := n3_; have BK780 := n4_; have BK784 := n5_; have HB := n6_; clear n0_ n1_ n2_ n3_ n4_ n5_ n6_; (try clear hb); (try clear hb2); (try clear hk); (try clear hi)
                   refine hK.out _ _ ⟨(blk_cell BK763.out 0).trans rfl, (blk_cell BK763.out 1).trans rfl, (blk_cell BK764.out 0).trans rfl, (blk_cell BK764.out 1).trans rfl, (blk_cell BK772.out 0).trans rfl, (blk_cell BK772.out 1).trans rfl, (blk_cell BK776.out 0).trans rfl, (blk_cell BK776.out 1).trans rfl, (blk_cell BK780.out 0).trans rfl, (blk_cell BK780.out 1).trans rfl, (blk_cell BK784.out 0).trans rfl, (blk_cell BK784.out 1).trans rfl⟩ (fun hHeld => ?_)
                   clear hK K
                   refine norm_ (a' := ?_) ?_ ?_
                   rotate_left
                   · show Act.put _ (some 52) _ = _
                     simp only [Act.put, List.setIfInBounds_toArray, List.set_cons_zero, List.set_cons_succ, i64_w, i32_w]
                     rfl
                   refine pure_ (i := 4) (N := some 53) (v := ?_) (a' := ?_) #[true, true, true, true, true, false, false, false, false, false, false, false, false, false, false, false, false, false, false, false, false, false, false, false, false, false, false, false, false, false, false, false, false, false, false, false, false, false, false, false, false, false, false, false, false, false, false, false, false, false, false, false, false, false, false] rfl rfl (any_of HT_.out (by kernel_rfl)) (fun _ _ _ h => h) (Or.inl ⟨by rfl, ?_⟩) ?_ ?_
                   rotate_left
                   · intro w'
                     go_simp
                     with_reducible rfl
                   rotate_left
                   · simp only [Act.put, List.setIfInBounds_toArray, List.set_cons_zero, List.set_cons_succ, i64_w, i32_w]
                     rfl
                   refine pure_ (i := 5) (N := some 54) (v := ?_) (a' := ?_) #[true, true, true, true, true, true, false, false, false, false, false, false, false, false, false, false, false, false, false, false, false, false, false, false, false, false, false, false, false, false, false, false, false, false, false, false, false, false, false, false, false, false, false, false, false, false, false, false, false, false, false, false, false, false, false] rfl rfl (any_of HT_.out (by kernel_rfl)) (fun _ _ _ h => h) (Or.inl ⟨by rfl, ?_⟩) ?_ ?_
                   rotate_left
                   · intro w'
                     go_simp
                     with_reducible rfl
                   rotate_left
                   · simp only [Act.put, List.setIfInBounds_toArray, List.set_cons_zero, List.set_cons_succ, i64_w, i32_w]
                     rfl
                   refine pure_ (i := 6) (N := some 55) (v := ?_) (a' := ?_) #[true, true, true, true, true, true, true, false, false, false, false, false, false, false, false, false, false, false, false, false, false, false, false, false, false, false, false, false, false, false, false, false, false, false, false, false, false, false, false, false, false, false, false, false, false, false, false, false, false, false, false, false, false, false, false] rfl rfl (any_of HT_.out (by kernel_rfl)) (fun _ _ _ h => h) (Or.inl ⟨by rfl, ?_⟩) ?_ ?_
                   rotate_left
                   · intro w'
                     go_simp
                     with_reducible rfl
                   rotate_left
                   · simp only [Act.put, List.setIfInBounds_toArray, List.set_cons_zero, List.set_cons_succ, i64_w, i32_w]
                     rfl
                   refine pure_ (i := 7) (N := some 56) (v := ?_) (a' := ?_) #[true, true, true, true, true, true, true, true, false, false, false, false, false, false, false, false, false, false, false, false, false, false, false, false, false, false, false, false, false, false, false, false, false, false, false, false, false, false, false, false, false, false, false, false, false, false, false, false, false, false, false, false, false, false, false] rfl rfl (any_of HT_.out (by kernel_rfl)) (fun _ _ _ h => h) (Or.inl ⟨by rfl, ?_⟩) ?_ ?_
                   rotate_left
                   · intro w'
                     go_simp
                     with_reducible rfl
                   rotate_left
                   · simp only [Act.put, List.setIfInBounds_toArray, List.set_cons_zero, List.set_cons_succ, i64_w, i32_w]
                     rfl
                   refine pure_ (i := 8) (N := some 57) (v := ?_) (a' := ?_) #[true, true, true, true, true, true, true, true, true, false, false, false, false, false, false, false, false, false, false, false, false, false, false, false, false, false, false, false, false, false, false, false, false, false, false, false, false, false, false, false, false, false, false, false, false, false, false, false, false, false, false, false, false, false, false] rfl rfl (any_of HT_.out (by kernel_rfl)) (fun _ _ _ h => h) (Or.inl ⟨by rfl, ?_⟩) ?_ ?_
                   rotate_left
                   · intro w'
                     go_simp
                     with_reducible rfl
                   rotate_left
                   · simp only [Act.put, List.setIfInBounds_toArray, List.set_cons_zero, List.set_cons_succ, i64_w, i32_w]
                     rfl
                   refine pure_ (i := 9) (N := some 58) (v := ?_) (a' := ?_) #[true, true, true, true, true, true, true, true, true, true, false, false, false, false, false, false, false, false, false, false, false, false, false, false, false, false, false, false, false, false, false, false, false, false, false, false, false, false, false, false, false, false, false, false, false, false, false, false, false, false, false, false, false, false, false] rfl rfl (any_of HT_.out (by kernel_rfl)) (fun _ _ _ h => h) (Or.inl ⟨by rfl, ?_⟩) ?_ ?_
                   rotate_left
                   · intro w'
                     go_simp
                     with_reducible rfl
                   rotate_left
                   · simp only [Act.put, List.setIfInBounds_toArray, List.set_cons_zero, List.set_cons_succ, i64_w, i32_w]
                     rfl
                   refine pure_ (i := 10) (N := some 59) (v := ?_) (a' := ?_) #[true, true, true, true, true, true, true, true, true, true, true, false, false, false, false, false, false, false, false, false, false, false, false, false, false, false, false, false, false, false, false, false, false, false, false, false, false, false, false, false, false, false, false, false, false, false, false, false, false, false, false, false, false, false, false] rfl rfl (any_of HT_.out (by kernel_rfl)) (fun _ _ _ h => h) (Or.inl ⟨by rfl, ?_⟩) ?_ ?_
                   rotate_left
                   · intro w'
                     go_simp
                     with_reducible rfl
                   rotate_left
                   · simp only [Act.put, List.setIfInBounds_toArray, List.set_cons_zero, List.set_cons_succ, i64_w, i32_w]
                     rfl
                   refine pure_ (i := 11) (N := some 60) (v := ?_) (a' := ?_) #[true, true, true, true, true, true, true, true, true, true, true, true, false, false, false, false, false, false, false, false, false, false, false, false, false, false, false, false, false, false, false, false, false, false, false, false, false, false, false, false, false, false, false, false, false, false, false, false, false, false, false, false, false, false, false] rfl rfl (any_of HT_.out (by kernel_rfl)) (fun _ _ _ h => h) (Or.inl ⟨by rfl, ?_⟩) ?_ ?_
                   rotate_left
                   · intro w'
                     go_simp
                     with_reducible rfl
                   rotate_left
                   · simp only [Act.put, List.setIfInBounds_toArray, List.set_cons_zero, List.set_cons_succ, i64_w, i32_w]
                     rfl
                   refine pure_ (i := 12) (N := some 61) (v := ?_) (a' := ?_) #[true, true, true, true, true, true, true, true, true, true, true, true, true, false, false, false, false, false, false, false, false, false, false, false, false, false, false, false, false, false, false, false, false, false, false, false, false, false, false, false, false, false, false, false, false, false, false, false, false, false, false, false, false, false, false] rfl rfl (any_of HT_.out (by kernel_rfl)) (fun _ _ _ h => h) (Or.inl ⟨by rfl, ?_⟩) ?_ ?_
                   rotate_left
                   · intro w'
                     go_simp
                     with_reducible rfl
                   rotate_left
                   · simp only [Act.put, List.setIfInBounds_toArray, List.set_cons_zero, List.set_cons_succ, i64_w, i32_w]
                     rfl
                   refine pure_ (i := 13) (N := some 62) (v := ?_) (a' := ?_) #[true, true, true, true, true, true, true, true, true, true, true, true, true, true, false, false, false, false, false, false, false, false, false, false, false, false, false, false, false, false, false, false, false, false, false, false, false, false, false, false, false, false, false, false, false, false, false, false, false, false, false, false, false, false, false] rfl rfl (any_of HT_.out (by kernel_rfl)) (fun _ _ _ h => h) (Or.inl ⟨by rfl, ?_⟩) ?_ ?_
                   rotate_left
                   · intro w'
                     go_simp
                     with_reducible rfl
                   rotate_left
                   · simp only [Act.put, List.setIfInBounds_toArray, List.set_cons_zero, List.set_cons_succ, i64_w, i32_w]
                     rfl
                   refine pure_ (i := 14) (N := some 63) (v := ?_) (a' := ?_) #[true, true, true, true, true, true, true, true, true, true, true, true, true, true, true, false, false, false, false, false, false, false, false, false, false, false, false, false, false, false, false, false, false, false, false, false, false, false, false, false, false, false, false, false, false, false, false, false, false, false, false, false, false, false, false] rfl rfl (any_of HT_.out (by kernel_rfl)) (fun _ _ _ h => h) (Or.inl ⟨by rfl, ?_⟩) ?_ ?_
                   rotate_left
                   · intro w'
                     go_simp
                     with_reducible rfl
                   rotate_left
                   · simp only [Act.put, List.setIfInBounds_toArray, List.set_cons_zero, List.set_cons_succ, i64_w, i32_w]
                     rfl
                   refine pure_ (i := 15) (N := some 64) (v := ?_) (a' := ?_) #[true, true, true, true, true, true, true, true, true, true, true, true, true, true, true, true, false, false, false, false, false, false, false, false, false, false, false, false, false, false, false, false, false, false, false, false, false, false, false, false, false, false, false, false, false, false, false, false, false, false, false, false, false, false, false] rfl rfl (any_of HT_.out (by kernel_rfl)) (fun _ _ _ h => h) (Or.inl ⟨by rfl, ?_⟩) ?_ ?_
                   rotate_left
                   · intro w'
                     go_simp
                     with_reducible rfl
                   rotate_left
                   · simp only [Act.put, List.setIfInBounds_toArray, List.set_cons_zero, List.set_cons_succ, i64_w, i32_w]
                     rfl
                   refine take_ (i := 16) (N := some 65) (v := ?_) (a' := ?_) #[true, true, true, true, true, true, true, true, true, true, true, true, true, true, true, true, true, false, false, false, false, false, false, false, false, false, false, false, false, false, false, false, false, false, false, false, false, false, false, false, false, false, false, false, false, false, false, false, false, false, false, false, false, false, false] rfl rfl (take_ofW HT_.out HW_.out (by kernel_rfl)) (fun _ _ _ h => h) (Or.inl ⟨by rfl, ?_⟩) hHeld ?_ ?_
                   rotate_left
                   · rintro w' ⟨s0, s1, s2, s3, s4, s5, s6, s7, s8, s9, s10, s11⟩
                     go_simp
                     with_reducible rfl
                   rotate_left
                   · simp only [Act.put, List.setIfInBounds_toArray, List.set_cons_zero, List.set_cons_succ, i64_w, i32_w]
                     rfl
                   refine take_ (i := 17) (N := some 66) (v := ?_) (a' := ?_) #[true, true, true, true, true, true, true, true, true, true, true, true, true, true, true, true, true, true, false, false, false, false, false, false, false, false, false, false, false, false, false, false, false, false, false, false, false, false, false, false, false, false, false, false, false, false, false, false, false, false, false, false, false, false, false] rfl rfl (take_ofW HT_.out HW_.out (by kernel_rfl)) (fun _ _ _ h => h) (Or.inl ⟨by rfl, ?_⟩) hHeld ?_ ?_
                   rotate_left
                   · rintro w' ⟨s0, s1, s2, s3, s4, s5, s6, s7, s8, s9, s10, s11⟩
                     go_simp
                     with_reducible rfl
                   rotate_left
                   · simp only [Act.put, List.setIfInBounds_toArray, List.set_cons_zero, List.set_cons_succ, i64_w, i32_w]
                     rfl
                   refine take_ (i := 19) (N := some 68) (v := ?_) (a' := ?_) #[true, true, true, true, true, true, true, true, true, true, true, true, true, true, true, true, true, true, false, true, false, false, false, false, false, false, false, false, false, false, false, false, false, false, false, false, false, false, false, false, false, false, false, false, false, false, false, false, false, false, false, false, false, false, false] rfl rfl (take_ofW HT_.out HW_.out (by kernel_rfl)) (fun _ _ _ h => h) (Or.inl ⟨by rfl, ?_⟩) hHeld ?_ ?_
                   rotate_left
                   · rintro w' ⟨s0, s1, s2, s3, s4, s5, s6, s7, s8, s9, s10, s11⟩
                     go_simp
                     with_reducible rfl
                   rotate_left
                   · simp only [Act.put, List.setIfInBounds_toArray, List.set_cons_zero, List.set_cons_succ, i64_w, i32_w]
                     rfl
                   refine take_ (i := 20) (N := some 69) (v := ?_) (a' := ?_) #[true, true, true, true, true, true, true, true, true, true, true, true, true, true, true, true, true, true, false, true, true, false, false, false, false, false, false, false, false, false, false, false, false, false, false, false, false, false, false, false, false, false, false, false, false, false, false, false, false, false, false, false, false, false, false] rfl rfl (take_ofW HT_.out HW_.out (by kernel_rfl)) (fun _ _ _ h => h) (Or.inl ⟨by rfl, ?_⟩) hHeld ?_ ?_
                   rotate_left
                   · rintro w' ⟨s0, s1, s2, s3, s4, s5, s6, s7, s8, s9, s10, s11⟩
                     go_simp
                     with_reducible rfl
                   rotate_left
                   · simp only [Act.put, List.setIfInBounds_toArray, List.set_cons_zero, List.set_cons_succ, i64_w, i32_w]
                     rfl
                   refine one_ (i := 18) (N := some 67) #[true, true, true, true, true, true, true, true, true, true, true, true, true, true, true, true, true, true, true, true, true, false, false, false, false, false, false, false, false, false, false, false, false, false, false, false, false, false, false, false, false, false, false, false, false, false, false, false, false, false, false, false, false, false, false] rfl rfl (one_of HT_.out (by kernel_rfl)) (by decide) (fun K hK => ?_)
                   refine goes_ Tryd.func30 (by kernel_rfl) rfl #[.agg #[.int .i64 a0_0, .int .u64 a0_1], .agg #[.int .i64 a1_0, .int .u64 a1_1]] (by rfl) rfl rfl (by (try simp only [List.map_toArray, List.map_cons, List.map_nil]); first | done | rfl | (simp only [List.length_drop, List.length_take]; rfl)) ?_
                   with_reducible refine (wide_Cmp.calls a0_0 a0_1 a1_0 a1_1 t789 _ A15.out).mono ?_
                   rintro e w67 ⟨rfl, hb⟩; refine ⟨_, rfl, ?_⟩; have n0_ := am (bb BK763 hb); have n1_ := am (bb BK764 hb); have n2_ := am (bb BK772 hb); have n3_ := am (bb BK776 hb); have n4_ := am (bb BK780 hb); have n5_ := am (bb BK784 hb); have n6_ := am (below_step bz hb); clear BK763 BK764 BK772 BK776 BK780 BK784 HB; have BK763 := n0_; have BK764 := n1_; have BK772 := n2_; have BK776 := n3_; have BK780 := n4_; have BK784 := n5_; have HB := n6_; clear n0_ n1_ n2_ n3_ n4_ n5_ n6_; (try clear hb); (try clear hb2); (try clear hk); (try clear hi)
                   refine hK.out _ _ ⟨(blk_cell BK763.out 0).trans rfl, (blk_cell BK763.out 1).trans rfl, (blk_cell BK764.out 0).trans rfl, (blk_cell BK764.out 1).trans rfl, (blk_cell BK772.out 0).trans rfl, (blk_cell BK772.out 1).trans rfl, (blk_cell BK776.out 0).trans rfl, (blk_cell BK776.out 1).trans rfl, (blk_cell BK780.out 0).trans rfl, (blk_cell BK780.out 1).trans rfl, (blk_cell BK784.out 0).trans rfl, (blk_cell BK784.out 1).trans rfl⟩ (fun hHeld => ?_)
                   clear hK K
                   refine norm_ (a' := ?_) ?_ ?_
                   rotate_left
                   · show Act.put _ (some 67) _ = _
                     simp only [Act.put, List.setIfInBounds_toArray, List.set_cons_zero, List.set_cons_succ, i64_w, i32_w]
                     rfl
                   refine one_ (i := 21) (N := some 70) #[true, true, true, true, true, true, true, true, true, true, true, true, true, true, true, true, true, true, true, true, true, true, false, false, false, false, false, false, false, false, false, false, false, false, false, false, false, false, false, false, false, false, false, false, false, false, false, false, false, false, false, false, false, false, false] rfl rfl (one_of HT_.out (by kernel_rfl)) (by decide) (fun K hK => ?_)
                   refine goes_ Tryd.func49 (by kernel_rfl) rfl #[.agg #[.int .i64 a0_0, .int .u64 a0_1], .agg #[.int .i64 a1_0, .int .u64 a1_1]] (by rfl) rfl rfl (by (try simp only [List.map_toArray, List.map_cons, List.map_nil]); first | done | rfl | (simp only [List.length_drop, List.length_take]; rfl)) ?_
                   with_reducible refine (tumblerref01_Cmp.calls k a0_0 a0_1 a1_0 a1_1 t790 _ A16.out).mono ?_
                   rintro e w68 ⟨rfl, hb⟩; refine ⟨_, rfl, ?_⟩; have n0_ := am (bb BK763 hb); have n1_ := am (bb BK764 hb); have n2_ := am (bb BK772 hb); have n3_ := am (bb BK776 hb); have n4_ := am (bb BK780 hb); have n5_ := am (bb BK784 hb); have n6_ := am (below_step bz hb); clear BK763 BK764 BK772 BK776 BK780 BK784 HB; have BK763 := n0_; have BK764 := n1_; have BK772 := n2_; have BK776 := n3_; have BK780 := n4_; have BK784 := n5_; have HB := n6_; clear n0_ n1_ n2_ n3_ n4_ n5_ n6_; (try clear hb); (try clear hb2); (try clear hk); (try clear hi)
                   refine hK.out _ _ ⟨(blk_cell BK763.out 0).trans rfl, (blk_cell BK763.out 1).trans rfl, (blk_cell BK764.out 0).trans rfl, (blk_cell BK764.out 1).trans rfl, (blk_cell BK772.out 0).trans rfl, (blk_cell BK772.out 1).trans rfl, (blk_cell BK776.out 0).trans rfl, (blk_cell BK776.out 1).trans rfl, (blk_cell BK780.out 0).trans rfl, (blk_cell BK780.out 1).trans rfl, (blk_cell BK784.out 0).trans rfl, (blk_cell BK784.out 1).trans rfl⟩ (fun hHeld => ?_)
                   clear hK K
                   refine norm_ (a' := ?_) ?_ ?_
                   rotate_left
                   · show Act.put _ (some 70) _ = _
                     simp only [Act.put, List.setIfInBounds_toArray, List.set_cons_zero, List.set_cons_succ, i64_w, i32_w]
                     rfl
                   refine pure_ (i := 22) (N := some 71) (v := ?_) (a' := ?_) #[true, true, true, true, true, true, true, true, true, true, true, true, true, true, true, true, true, true, true, true, true, true, true, false, false, false, false, false, false, false, false, false, false, false, false, false, false, false, false, false, false, false, false, false, false, false, false, false, false, false, false, false, false, false, false] rfl rfl (any_of HT_.out (by kernel_rfl)) (fun _ _ _ h => h) (Or.inl ⟨by rfl, ?_⟩) ?_ ?_
                   rotate_left
                   · intro w'
                     go_simp
                     with_reducible rfl
                   rotate_left
                   · simp only [Act.put, List.setIfInBounds_toArray, List.set_cons_zero, List.set_cons_succ, i64_w, i32_w]
                     rfl
                   refine pure_ (i := 23) (N := some 72) (v := ?_) (a' := ?_) #[true, true, true, true, true, true, true, true, true, true, true, true, true, true, true, true, true, true, true, true, true, true, true, true, false, false, false, false, false, false, false, false, false, false, false, false, false, false, false, false, false, false, false, false, false, false, false, false, false, false, false, false, false, false, false] rfl rfl (any_of HT_.out (by kernel_rfl)) (fun _ _ _ h => h) (Or.inl ⟨by rfl, ?_⟩) ?_ ?_
                   rotate_left
                   · intro w'
                     go_simp
                     with_reducible rfl
                   rotate_left
                   · simp only [Act.put, List.setIfInBounds_toArray, List.set_cons_zero, List.set_cons_succ, i64_w, i32_w]
                     rfl
                   refine pure_ (i := 24) (N := some 73) (v := ?_) (a' := ?_) #[true, true, true, true, true, true, true, true, true, true, true, true, true, true, true, true, true, true, true, true, true, true, true, true, true, false, false, false, false, false, false, false, false, false, false, false, false, false, false, false, false, false, false, false, false, false, false, false, false, false, false, false, false, false, false] rfl rfl (any_of HT_.out (by kernel_rfl)) (fun _ _ _ h => h) (Or.inl ⟨by rfl, ?_⟩) ?_ ?_
                   rotate_left
                   · intro w'
                     go_simp
                     with_reducible rfl
                   rotate_left
                   · simp only [Act.put, List.setIfInBounds_toArray, List.set_cons_zero, List.set_cons_succ, i64_w, i32_w]
                     rfl
                   refine take_ (i := 25) (N := some 74) (v := ?_) (a' := ?_) #[true, true, true, true, true, true, true, true, true, true, true, true, true, true, true, true, true, true, true, true, true, true, true, true, true, true, false, false, false, false, false, false, false, false, false, false, false, false, false, false, false, false, false, false, false, false, false, false, false, false, false, false, false, false, false] rfl rfl (take_ofW HT_.out HW_.out (by kernel_rfl)) (fun _ _ _ h => h) (Or.inl ⟨by rfl, ?_⟩) hHeld ?_ ?_
                   rotate_left
                   · rintro w' ⟨s0, s1, s2, s3, s4, s5, s6, s7, s8, s9, s10, s11⟩
                     go_simp
                     with_reducible rfl
                   rotate_left
                   · simp only [Act.put, List.setIfInBounds_toArray, List.set_cons_zero, List.set_cons_succ, i64_w, i32_w]
                     rfl
                   refine take_ (i := 27) (N := some 76) (v := ?_) (a' := ?_) #[true, true, true, true, true, true, true, true, true, true, true, true, true, true, true, true, true, true, true, true, true, true, true, true, true, true, false, true, false, false, false, false, false, false, false, false, false, false, false, false, false, false, false, false, false, false, false, false, false, false, false, false, false, false, false] rfl rfl (take_ofW HT_.out HW_.out (by kernel_rfl)) (fun _ _ _ h => h) (Or.inl ⟨by rfl, ?_⟩) hHeld ?_ ?_
                   rotate_left
                   · rintro w' ⟨s0, s1, s2, s3, s4, s5, s6, s7, s8, s9, s10, s11⟩
                     go_simp
                     with_reducible rfl
                   rotate_left
                   · simp only [Act.put, List.setIfInBounds_toArray, List.set_cons_zero, List.set_cons_succ, i64_w, i32_w]
                     rfl
                   refine one_ (i := 26) (N := some 75) #[true, true, true, true, true, true, true, true, true, true, true, true, true, true, true, true, true, true, true, true, true, true, true, true, true, true, true, true, false, false, false, false, false, false, false, false, false, false, false, false, false, false, false, false, false, false, false, false, false, false, false, false, false, false, false] rfl rfl (one_of HT_.out (by kernel_rfl)) (by decide) (fun K hK => ?_)
                   refine goes_ Tryd.func50 (by kernel_rfl) rfl #[.agg #[.int .i64 a0_0, .int .u64 a0_1]] (by rfl) rfl rfl (by (try simp only [List.map_toArray, List.map_cons, List.map_nil]); first | done | rfl | (simp only [List.length_drop, List.length_take]; rfl)) ?_
                   with_reducible refine (wide_Sign.calls a0_0 a0_1 t791 _ A18.out).mono ?_
                   rintro e w69 ⟨rfl, hb⟩; refine ⟨_, rfl, ?_⟩; have n0_ := am (bb BK763 hb); have n1_ := am (bb BK764 hb); have n2_ := am (bb BK772 hb); have n3_ := am (bb BK776 hb); have n4_ := am (bb BK780 hb); have n5_ := am (bb BK784 hb); have n6_ := am (below_step bz hb); clear BK763 BK764 BK772 BK776 BK780 BK784 HB; have BK763 := n0_; have BK764 := n1_; have BK772 := n2_; have BK776 := n3_; have BK780 := n4_; have BK784 := n5_; have HB := n6_; clear n0_ n1_ n2_ n3_ n4_ n5_ n6_; (try clear hb); (try clear hb2); (try clear hk); (try clear hi)
                   refine hK.out _ _ ⟨(blk_cell BK763.out 0).trans rfl, (blk_cell BK763.out 1).trans rfl, (blk_cell BK764.out 0).trans rfl, (blk_cell BK764.out 1).trans rfl, (blk_cell BK772.out 0).trans rfl, (blk_cell BK772.out 1).trans rfl, (blk_cell BK776.out 0).trans rfl, (blk_cell BK776.out 1).trans rfl, (blk_cell BK780.out 0).trans rfl, (blk_cell BK780.out 1).trans rfl, (blk_cell BK784.out 0).trans rfl, (blk_cell BK784.out 1).trans rfl⟩ (fun hHeld => ?_)
                   clear hK K
                   refine norm_ (a' := ?_) ?_ ?_
                   rotate_left
                   · show Act.put _ (some 75) _ = _
                     simp only [Act.put, List.setIfInBounds_toArray, List.set_cons_zero, List.set_cons_succ, i64_w, i32_w]
                     rfl
                   refine one_ (i := 28) (N := some 77) #[true, true, true, true, true, true, true, true, true, true, true, true, true, true, true, true, true, true, true, true, true, true, true, true, true, true, true, true, true, false, false, false, false, false, false, false, false, false, false, false, false, false, false, false, false, false, false, false, false, false, false, false, false, false, false] rfl rfl (one_of HT_.out (by kernel_rfl)) (by decide) (fun K hK => ?_)
                   refine goes_ Tryd.func51 (by kernel_rfl) rfl #[.agg #[.int .i64 a0_0, .int .u64 a0_1]] (by rfl) rfl rfl (by (try simp only [List.map_toArray, List.map_cons, List.map_nil]); first | done | rfl | (simp only [List.length_drop, List.length_take]; rfl)) ?_
                   with_reducible refine (tumblerref01_Sign.calls k a0_0 a0_1 t792 _ A19.out).mono ?_
                   rintro e w70 ⟨rfl, hb⟩; refine ⟨_, rfl, ?_⟩; have n0_ := am (bb BK763 hb); have n1_ := am (bb BK764 hb); have n2_ := am (bb BK772 hb); have n3_ := am (bb BK776 hb); have n4_ := am (bb BK780 hb); have n5_ := am (bb BK784 hb); have n6_ := am (below_step bz hb); clear BK763 BK764 BK772 BK776 BK780 BK784 HB; have BK763 := n0_; have BK764 := n1_; have BK772 := n2_; have BK776 := n3_; have BK780 := n4_; have BK784 := n5_; have HB := n6_; clear n0_ n1_ n2_ n3_ n4_ n5_ n6_; (try clear hb); (try clear hb2); (try clear hk); (try clear hi)
                   refine hK.out _ _ ⟨(blk_cell BK763.out 0).trans rfl, (blk_cell BK763.out 1).trans rfl, (blk_cell BK764.out 0).trans rfl, (blk_cell BK764.out 1).trans rfl, (blk_cell BK772.out 0).trans rfl, (blk_cell BK772.out 1).trans rfl, (blk_cell BK776.out 0).trans rfl, (blk_cell BK776.out 1).trans rfl, (blk_cell BK780.out 0).trans rfl, (blk_cell BK780.out 1).trans rfl, (blk_cell BK784.out 0).trans rfl, (blk_cell BK784.out 1).trans rfl⟩ (fun hHeld => ?_)
                   clear hK K
                   refine norm_ (a' := ?_) ?_ ?_
                   rotate_left
                   · show Act.put _ (some 77) _ = _
                     simp only [Act.put, List.setIfInBounds_toArray, List.set_cons_zero, List.set_cons_succ, i64_w, i32_w]
                     rfl
                   refine pure_ (i := 29) (N := some 78) (v := ?_) (a' := ?_) #[true, true, true, true, true, true, true, true, true, true, true, true, true, true, true, true, true, true, true, true, true, true, true, true, true, true, true, true, true, true, false, false, false, false, false, false, false, false, false, false, false, false, false, false, false, false, false, false, false, false, false, false, false, false, false] rfl rfl (any_of HT_.out (by kernel_rfl)) (fun _ _ _ h => h) (Or.inl ⟨by rfl, ?_⟩) ?_ ?_
                   rotate_left
                   · intro w'
                     go_simp
                     with_reducible rfl
                   rotate_left
                   · simp only [Act.put, List.setIfInBounds_toArray, List.set_cons_zero, List.set_cons_succ, i64_w, i32_w]
                     rfl
                   refine pure_ (i := 30) (N := some 79) (v := ?_) (a' := ?_) #[true, true, true, true, true, true, true, true, true, true, true, true, true, true, true, true, true, true, true, true, true, true, true, true, true, true, true, true, true, true, true, false, false, false, false, false, false, false, false, false, false, false, false, false, false, false, false, false, false, false, false, false, false, false, false] rfl rfl (any_of HT_.out (by kernel_rfl)) (fun _ _ _ h => h) (Or.inl ⟨by rfl, ?_⟩) ?_ ?_
                   rotate_left
                   · intro w'
                     go_simp
                     with_reducible rfl
                   rotate_left
                   · simp only [Act.put, List.setIfInBounds_toArray, List.set_cons_zero, List.set_cons_succ, i64_w, i32_w]
                     rfl
                   refine pure_ (i := 31) (N := some 80) (v := ?_) (a' := ?_) #[true, true, true, true, true, true, true, true, true, true, true, true, true, true, true, true, true, true, true, true, true, true, true, true, true, true, true, true, true, true, true, true, false, false, false, false, false, false, false, false, false, false, false, false, false, false, false, false, false, false, false, false, false, false, false] rfl rfl (any_of HT_.out (by kernel_rfl)) (fun _ _ _ h => h) (Or.inl ⟨by rfl, ?_⟩) ?_ ?_
                   rotate_left
                   · intro w'
                     go_simp
                     with_reducible rfl
                   rotate_left
                   · simp only [Act.put, List.setIfInBounds_toArray, List.set_cons_zero, List.set_cons_succ, i64_w, i32_w]
                     rfl
                   refine take_ (i := 32) (N := some 81) (v := ?_) (a' := ?_) #[true, true, true, true, true, true, true, true, true, true, true, true, true, true, true, true, true, true, true, true, true, true, true, true, true, true, true, true, true, true, true, true, true, false, false, false, false, false, false, false, false, false, false, false, false, false, false, false, false, false, false, false, false, false, false] rfl rfl (take_ofW HT_.out HW_.out (by kernel_rfl)) (fun _ _ _ h => h) (Or.inl ⟨by rfl, ?_⟩) hHeld ?_ ?_
                   rotate_left
                   · rintro w' ⟨s0, s1, s2, s3, s4, s5, s6, s7, s8, s9, s10, s11⟩
                     go_simp
                     with_reducible rfl
                   rotate_left
                   · simp only [Act.put, List.setIfInBounds_toArray, List.set_cons_zero, List.set_cons_succ, i64_w, i32_w]
                     rfl
                   refine take_ (i := 33) (N := some 82) (v := ?_) (a' := ?_) #[true, true, true, true, true, true, true, true, true, true, true, true, true, true, true, true, true, true, true, true, true, true, true, true, true, true, true, true, true, true, true, true, true, true, false, false, false, false, false, false, false, false, false, false, false, false, false, false, false, false, false, false, false, false, false] rfl rfl (take_ofW HT_.out HW_.out (by kernel_rfl)) (fun _ _ _ h => h) (Or.inl ⟨by rfl, ?_⟩) hHeld ?_ ?_
                   rotate_left
                   · rintro w' ⟨s0, s1, s2, s3, s4, s5, s6, s7, s8, s9, s10, s11⟩
                     go_simp
                     with_reducible rfl
                   rotate_left
                   · simp only [Act.put, List.setIfInBounds_toArray, List.set_cons_zero, List.set_cons_succ, i64_w, i32_w]
                     rfl
                   refine pure_ (i := 34) (N := some 83) (v := ?_) (a' := ?_) #[true, true, true, true, true, true, true, true, true, true, true, true, true, true, true, true, true, true, true, true, true, true, true, true, true, true, true, true, true, true, true, true, true, true, true, false, false, false, false, false, false, false, false, false, false, false, false, false, false, false, false, false, false, false, false] rfl rfl (any_of HT_.out (by kernel_rfl)) (fun _ _ _ h => h) (Or.inl ⟨by rfl, ?_⟩) ?_ ?_
                   rotate_left
                   · intro w'
                     go_simp
                     with_reducible rfl
                   rotate_left
                   · simp only [Act.put, List.setIfInBounds_toArray, List.set_cons_zero, List.set_cons_succ, i64_w, i32_w]
                     rfl
                   refine pure_ (i := 35) (N := some 84) (v := ?_) (a' := ?_) #[true, true, true, true, true, true, true, true, true, true, true, true, true, true, true, true, true, true, true, true, true, true, true, true, true, true, true, true, true, true, true, true, true, true, true, true, false, false, false, false, false, false, false, false, false, false, false, false, false, false, false, false, false, false, false] rfl rfl (any_of HT_.out (by kernel_rfl)) (fun _ _ _ h => h) (Or.inl ⟨by rfl, ?_⟩) ?_ ?_
                   rotate_left
                   · intro w'
                     go_simp
                     with_reducible rfl
                   rotate_left
                   · simp only [Act.put, List.setIfInBounds_toArray, List.set_cons_zero, List.set_cons_succ, i64_w, i32_w]
                     rfl
                   refine pure_ (i := 36) (N := some 85) (v := ?_) (a' := ?_) #[true, true, true, true, true, true, true, true, true, true, true, true, true, true, true, true, true, true, true, true, true, true, true, true, true, true, true, true, true, true, true, true, true, true, true, true, true, false, false, false, false, false, false, false, false, false, false, false, false, false, false, false, false, false, false] rfl rfl (any_of HT_.out (by kernel_rfl)) (fun _ _ _ h => h) (Or.inl ⟨by rfl, ?_⟩) ?_ ?_
                   rotate_left
                   · intro w'
                     go_simp
                     with_reducible rfl
                   rotate_left
                   · simp only [Act.put, List.setIfInBounds_toArray, List.set_cons_zero, List.set_cons_succ, i64_w, i32_w]
                     rfl
                   refine pure_ (i := 37) (N := some 86) (v := ?_) (a' := ?_) #[true, true, true, true, true, true, true, true, true, true, true, true, true, true, true, true, true, true, true, true, true, true, true, true, true, true, true, true, true, true, true, true, true, true, true, true, true, true, false, false, false, false, false, false, false, false, false, false, false, false, false, false, false, false, false] rfl rfl (any_of HT_.out (by kernel_rfl)) (fun _ _ _ h => h) (Or.inl ⟨by rfl, ?_⟩) ?_ ?_
                   rotate_left
                   · intro w'
                     go_simp
                     with_reducible rfl
                   rotate_left
                   · simp only [Act.put, List.setIfInBounds_toArray, List.set_cons_zero, List.set_cons_succ, i64_w, i32_w]
                     rfl
                   refine pure_ (i := 38) (N := some 87) (v := ?_) (a' := ?_) #[true, true, true, true, true, true, true, true, true, true, true, true, true, true, true, true, true, true, true, true, true, true, true, true, true, true, true, true, true, true, true, true, true, true, true, true, true, true, true, false, false, false, false, false, false, false, false, false, false, false, false, false, false, false, false] rfl rfl (any_of HT_.out (by kernel_rfl)) (fun _ _ _ h => h) (Or.inl ⟨by rfl, ?_⟩) ?_ ?_
                   rotate_left
                   · intro w'
                     go_simp
                     with_reducible rfl
                   rotate_left
                   · simp only [Act.put, List.setIfInBounds_toArray, List.set_cons_zero, List.set_cons_succ, i64_w, i32_w]
                     rfl
                   refine pure_ (i := 39) (N := some 88) (v := ?_) (a' := ?_) #[true, true, true, true, true, true, true, true, true, true, true, true, true, true, true, true, true, true, true, true, true, true, true, true, true, true, true, true, true, true, true, true, true, true, true, true, true, true, true, true, false, false, false, false, false, false, false, false, false, false, false, false, false, false, false] rfl rfl (any_of HT_.out (by kernel_rfl)) (fun _ _ _ h => h) (Or.inl ⟨by rfl, ?_⟩) ?_ ?_
                   rotate_left
                   · intro w'
                     go_simp
                     with_reducible rfl
                   rotate_left
                   · simp only [Act.put, List.setIfInBounds_toArray, List.set_cons_zero, List.set_cons_succ, i64_w, i32_w]
                     rfl
                   refine pure_ (i := 40) (N := some 89) (v := ?_) (a' := ?_) #[true, true, true, true, true, true, true, true, true, true, true, true, true, true, true, true, true, true, true, true, true, true, true, true, true, true, true, true, true, true, true, true, true, true, true, true, true, true, true, true, true, false, false, false, false, false, false, false, false, false, false, false, false, false, false] rfl rfl (any_of HT_.out (by kernel_rfl)) (fun _ _ _ h => h) (Or.inl ⟨by rfl, ?_⟩) ?_ ?_
                   rotate_left
                   · intro w'
                     go_simp
                     with_reducible rfl
                   rotate_left
                   · simp only [Act.put, List.setIfInBounds_toArray, List.set_cons_zero, List.set_cons_succ, i64_w, i32_w]
                     rfl
                   refine pure_ (i := 41) (N := some 90) (v := ?_) (a' := ?_) #[true, true, true, true, true, true, true, true, true, true, true, true, true, true, true, true, true, true, true, true, true, true, true, true, true, true, true, true, true, true, true, true, true, true, true, true, true, true, true, true, true, true, false, false, false, false, false, false, false, false, false, false, false, false, false] rfl rfl (any_of HT_.out (by kernel_rfl)) (fun _ _ _ h => h) (Or.inl ⟨by rfl, ?_⟩) ?_ ?_
                   rotate_left
                   · intro w'
                     go_simp
                     with_reducible rfl
                   rotate_left
                   · simp only [Act.put, List.setIfInBounds_toArray, List.set_cons_zero, List.set_cons_succ, i64_w, i32_w]
                     rfl
                   refine take_ (i := 42) (N := some 91) (v := ?_) (a' := ?_) #[true, true, true, true, true, true, true, true, true, true, true, true, true, true, true, true, true, true, true, true, true, true, true, true, true, true, true, true, true, true, true, true, true, true, true, true, true, true, true, true, true, true, true, false, false, false, false, false, false, false, false, false, false, false, false] rfl rfl (take_ofW HT_.out HW_.out (by kernel_rfl)) (fun _ _ _ h => h) (Or.inl ⟨by rfl, ?_⟩) hHeld ?_ ?_
                   rotate_left
                   · rintro w' ⟨s0, s1, s2, s3, s4, s5, s6, s7, s8, s9, s10, s11⟩
                     go_simp
                     with_reducible rfl
                   rotate_left
                   · simp only [Act.put, List.setIfInBounds_toArray, List.set_cons_zero, List.set_cons_succ, i64_w, i32_w]
                     rfl
                   refine take_ (i := 43) (N := some 92) (v := ?_) (a' := ?_) #[true, true, true, true, true, true, true, true, true, true, true, true, true, true, true, true, true, true, true, true, true, true, true, true, true, true, true, true, true, true, true, true, true, true, true, true, true, true, true, true, true, true, true, true, false, false, false, false, false, false, false, false, false, false, false] rfl rfl (take_ofW HT_.out HW_.out (by kernel_rfl)) (fun _ _ _ h => h) (Or.inl ⟨by rfl, ?_⟩) hHeld ?_ ?_
                   rotate_left
                   · rintro w' ⟨s0, s1, s2, s3, s4, s5, s6, s7, s8, s9, s10, s11⟩
                     go_simp
                     with_reducible rfl
                   rotate_left
                   · simp only [Act.put, List.setIfInBounds_toArray, List.set_cons_zero, List.set_cons_succ, i64_w, i32_w]
                     rfl
                   refine pure_ (i := 44) (N := some 93) (v := ?_) (a' := ?_) #[true, true, true, true, true, true, true, true, true, true, true, true, true, true, true, true, true, true, true, true, true, true, true, true, true, true, true, true, true, true, true, true, true, true, true, true, true, true, true, true, true, true, true, true, true, false, false, false, false, false, false, false, false, false, false] rfl rfl (any_of HT_.out (by kernel_rfl)) (fun _ _ _ h => h) (Or.inl ⟨by rfl, ?_⟩) ?_ ?_
                   rotate_left
                   · intro w'
                     go_simp
                     with_reducible rfl
                   rotate_left
                   · simp only [Act.put, List.setIfInBounds_toArray, List.set_cons_zero, List.set_cons_succ, i64_w, i32_w]
                     rfl
                   refine pure_ (i := 45) (N := some 94) (v := ?_) (a' := ?_) #[true, true, true, true, true, true, true, true, true, true, true, true, true, true, true, true, true, true, true, true, true, true, true, true, true, true, true, true, true, true, true, true, true, true, true, true, true, true, true, true, true, true, true, true, true, true, false, false, false, false, false, false, false, false, false] rfl rfl (any_of HT_.out (by kernel_rfl)) (fun _ _ _ h => h) (Or.inl ⟨by rfl, ?_⟩) ?_ ?_
                   rotate_left
                   · intro w'
                     go_simp
                     with_reducible rfl
                   rotate_left
                   · simp only [Act.put, List.setIfInBounds_toArray, List.set_cons_zero, List.set_cons_succ, i64_w, i32_w]
                     rfl
                   refine pure_ (i := 46) (N := some 95) (v := ?_) (a' := ?_) #[true, true, true, true, true, true, true, true, true, true, true, true, true, true, true, true, true, true, true, true, true, true, true, true, true, true, true, true, true, true, true, true, true, true, true, true, true, true, true, true, true, true, true, true, true, true, true, false, false, false, false, false, false, false, false] rfl rfl (any_of HT_.out (by kernel_rfl)) (fun _ _ _ h => h) (Or.inl ⟨by rfl, ?_⟩) ?_ ?_
                   rotate_left
                   · intro w'
                     go_simp
                     with_reducible rfl
                   rotate_left
                   · simp only [Act.put, List.setIfInBounds_toArray, List.set_cons_zero, List.set_cons_succ, i64_w, i32_w]
                     rfl
                   refine pure_ (i := 47) (N := some 96) (v := ?_) (a' := ?_) #[true, true, true, true, true, true, true, true, true, true, true, true, true, true, true, true, true, true, true, true, true, true, true, true, true, true, true, true, true, true, true, true, true, true, true, true, true, true, true, true, true, true, true, true, true, true, true, true, false, false, false, false, false, false, false] rfl rfl (any_of HT_.out (by kernel_rfl)) (fun _ _ _ h => h) (Or.inl ⟨by rfl, ?_⟩) ?_ ?_
                   rotate_left
                   · intro w'
                     go_simp
                     with_reducible rfl
                   rotate_left
                   · simp only [Act.put, List.setIfInBounds_toArray, List.set_cons_zero, List.set_cons_succ, i64_w, i32_w]
                     rfl
                   refine pure_ (i := 48) (N := some 97) (v := ?_) (a' := ?_) #[true, true, true, true, true, true, true, true, true, true, true, true, true, true, true, true, true, true, true, true, true, true, true, true, true, true, true, true, true, true, true, true, true, true, true, true, true, true, true, true, true, true, true, true, true, true, true, true, true, false, false, false, false, false, false] rfl rfl (any_of HT_.out (by kernel_rfl)) (fun _ _ _ h => h) (Or.inl ⟨by rfl, ?_⟩) ?_ ?_
                   rotate_left
                   · intro w'
                     go_simp
                     with_reducible rfl
                   rotate_left
                   · simp only [Act.put, List.setIfInBounds_toArray, List.set_cons_zero, List.set_cons_succ, i64_w, i32_w]
                     rfl
                   refine pure_ (i := 49) (N := some 98) (v := ?_) (a' := ?_) #[true, true, true, true, true, true, true, true, true, true, true, true, true, true, true, true, true, true, true, true, true, true, true, true, true, true, true, true, true, true, true, true, true, true, true, true, true, true, true, true, true, true, true, true, true, true, true, true, true, true, false, false, false, false, false] rfl rfl (any_of HT_.out (by kernel_rfl)) (fun _ _ _ h => h) (Or.inl ⟨by rfl, ?_⟩) ?_ ?_
                   rotate_left
                   · intro w'
                     go_simp
                     with_reducible rfl
                   rotate_left
                   · simp only [Act.put, List.setIfInBounds_toArray, List.set_cons_zero, List.set_cons_succ, i64_w, i32_w]
                     rfl
                   refine pure_ (i := 50) (N := some 99) (v := ?_) (a' := ?_) #[true, true, true, true, true, true, true, true, true, true, true, true, true, true, true, true, true, true, true, true, true, true, true, true, true, true, true, true, true, true, true, true, true, true, true, true, true, true, true, true, true, true, true, true, true, true, true, true, true, true, true, false, false, false, false] rfl rfl (any_of HT_.out (by kernel_rfl)) (fun _ _ _ h => h) (Or.inl ⟨by rfl, ?_⟩) ?_ ?_
                   rotate_left
                   · intro w'
                     go_simp
                     with_reducible rfl
                   rotate_left
                   · simp only [Act.put, List.setIfInBounds_toArray, List.set_cons_zero, List.set_cons_succ, i64_w, i32_w]
                     rfl
                   refine pure_ (i := 51) (N := some 100) (v := ?_) (a' := ?_) #[true, true, true, true, true, true, true, true, true, true, true, true, true, true, true, true, true, true, true, true, true, true, true, true, true, true, true, true, true, true, true, true, true, true, true, true, true, true, true, true, true, true, true, true, true, true, true, true, true, true, true, true, false, false, false] rfl rfl (any_of HT_.out (by kernel_rfl)) (fun _ _ _ h => h) (Or.inl ⟨by rfl, ?_⟩) ?_ ?_
                   rotate_left
                   · intro w'
                     go_simp
                     with_reducible rfl
                   rotate_left
                   · simp only [Act.put, List.setIfInBounds_toArray, List.set_cons_zero, List.set_cons_succ, i64_w, i32_w]
                     rfl
                   refine one_ (i := 52) (N := some 101) #[true, true, true, true, true, true, true, true, true, true, true, true, true, true, true, true, true, true, true, true, true, true, true, true, true, true, true, true, true, true, true, true, true, true, true, true, true, true, true, true, true, true, true, true, true, true, true, true, true, true, true, true, true, false, false] rfl rfl (one_of HT_.out (by kernel_rfl)) (by decide) (fun K hK => ?_)
                   refine goes_ Tryd.func29 (by kernel_rfl) rfl #[] (by rfl) rfl rfl (by (try simp only [List.map_toArray, List.map_cons, List.map_nil]); first | done | rfl | (simp only [List.length_drop, List.length_take]; rfl)) ?_
                   with_reducible refine (tumblerlaw01_alive.calls k  t793 _ (tN hT) A25.out).mono ?_
                   rintro e w71 ⟨rfl, hb⟩; refine ⟨_, rfl, ?_⟩; have n0_ := am (bb BK763 hb); have n1_ := am (bb BK764 hb); have n2_ := am (bb BK772 hb); have n3_ := am (bb BK776 hb); have n4_ := am (bb BK780 hb); have n5_ := am (bb BK784 hb); have n6_ := am (below_step bz hb); clear BK763 BK764 BK772 BK776 BK780 BK784 HB; have BK763 := n0_; have BK764 := n1_; have BK772 := n2_; have BK776 := n3_; have BK780 := n4_; have BK784 := n5_; have HB := n6_; clear n0_ n1_ n2_ n3_ n4_ n5_ n6_; (try clear hb); (try clear hb2); (try clear hk); (try clear hi)
                   refine hK.out _ _ ⟨(blk_cell BK763.out 0).trans rfl, (blk_cell BK763.out 1).trans rfl, (blk_cell BK764.out 0).trans rfl, (blk_cell BK764.out 1).trans rfl, (blk_cell BK772.out 0).trans rfl, (blk_cell BK772.out 1).trans rfl, (blk_cell BK776.out 0).trans rfl, (blk_cell BK776.out 1).trans rfl, (blk_cell BK780.out 0).trans rfl, (blk_cell BK780.out 1).trans rfl, (blk_cell BK784.out 0).trans rfl, (blk_cell BK784.out 1).trans rfl⟩ (fun hHeld => ?_)
                   clear hK K
                   refine norm_ (a' := ?_) ?_ ?_
                   rotate_left
                   · show Act.put _ (some 101) _ = _
                     simp only [Act.put, List.setIfInBounds_toArray, List.set_cons_zero, List.set_cons_succ, i64_w, i32_w]
                     rfl
                   refine pure_ (i := 53) (N := some 102) (v := ?_) (a' := ?_) #[true, true, true, true, true, true, true, true, true, true, true, true, true, true, true, true, true, true, true, true, true, true, true, true, true, true, true, true, true, true, true, true, true, true, true, true, true, true, true, true, true, true, true, true, true, true, true, true, true, true, true, true, true, true, false] rfl rfl (any_of HT_.out (by kernel_rfl)) (fun _ _ _ h => h) (Or.inl ⟨by rfl, ?_⟩) ?_ ?_
                   rotate_left
                   · intro w'
                     go_simp
                     with_reducible rfl
                   rotate_left
                   · simp only [Act.put, List.setIfInBounds_toArray, List.set_cons_zero, List.set_cons_succ, i64_w, i32_w]
                     rfl
                   refine pure_ (i := 54) (N := some 6) (v := ?_) (a' := ?_) #[true, true, true, true, true, true, true, true, true, true, true, true, true, true, true, true, true, true, true, true, true, true, true, true, true, true, true, true, true, true, true, true, true, true, true, true, true, true, true, true, true, true, true, true, true, true, true, true, true, true, true, true, true, true, true] rfl rfl (any_of HT_.out (by kernel_rfl)) (fun _ _ _ h => h) (Or.inl ⟨by rfl, ?_⟩) ?_ ?_
                   rotate_left
                   · intro w'
                     go_simp
                     with_reducible rfl
                   rotate_left
                   · simp only [Act.put, List.setIfInBounds_toArray, List.set_cons_zero, List.set_cons_succ, i64_w, i32_w]
                     rfl
                   refine done_ (done_of HT_.out (by kernel_rfl)) ?_
                   try go_wp2
                   go_ret
                   exact ⟨by first | rfl | (simp [errW_none, errW_some] <;> rfl) | (simp [*, errW_none, errW_some] <;> rfl), by repeat (first | (with_reducible first | exact HB.out | apply dA | apply dB | apply dC | refine dE ?_ ‹_›) | exact HB.out)⟩
                 · rw [if_neg c24] at H
                   have c24b0 : (t779 == t783) = false := beq_eq_false_iff_ne.mpr c24; have c24b1 : (t779 != t783) = true := bne_iff_ne.mpr c24
                   exact Bool.noConfusion ((Option.some.inj H).trans hr_.out)
               · rw [if_neg c23] at H
                 have c23b0 : (t777 == t781 && (t778 == t782)) = false := by simpa using c23
                 (try (have c23b1 : decide (t777 = t781 && (t778 == t782)) = false := by simpa using c23)); (try (have c23b2 : (t777 == t781 && (t778 == t782)) = false := by simpa using c23)); (try (have c23b3 : ¬ (t777 = t781 && (t778 == t782)) := by simpa using c23)); clear c23
                 exact Bool.noConfusion ((Option.some.inj H).trans hr_.out)
             · rw [if_neg c22] at H
               have c22b0 : (t771 == t775) = false := beq_eq_false_iff_ne.mpr c22; have c22b1 : (t771 != t775) = true := bne_iff_ne.mpr c22
               exact Bool.noConfusion ((Option.some.inj H).trans hr_.out)
           · rw [if_neg c21] at H
             have c21b0 : (t769 == t773 && (t770 == t774)) = false := by simpa using c21
             (try (have c21b1 : decide (t769 = t773 && (t770 == t774)) = false := by simpa using c21)); (try (have c21b2 : (t769 == t773 && (t770 == t774)) = false := by simpa using c21)); (try (have c21b3 : ¬ (t769 = t773 && (t770 == t774)) := by simpa using c21)); clear c21
             exact Bool.noConfusion ((Option.some.inj H).trans hr_.out)
         · rw [if_neg c20] at H
           have c20b0 : (t791 == t792) = false := beq_eq_false_iff_ne.mpr c20; have c20b1 : (t791 != t792) = true := bne_iff_ne.mpr c20
           exact Bool.noConfusion ((Option.some.inj H).trans hr_.out)
       · rw [if_neg c17] at H
         have c17b0 : (t789 == t790) = false := beq_eq_false_iff_ne.mpr c17; have c17b1 : (t789 != t790) = true := bne_iff_ne.mpr c17
         exact Bool.noConfusion ((Option.some.inj H).trans hr_.out)
     · rw [if_neg c14] at H
       have c14b0 : (t766 == t768) = false := by simpa using c14
       (try (have c14b1 : decide (t766 = t768) = false := by simpa using c14)); (try (have c14b2 : (t766 == t768) = false := by simpa using c14)); (try (have c14b3 : ¬ (t766 = t768) := by simpa using c14)); clear c14
       exact Bool.noConfusion ((Option.some.inj H).trans hr_.out)
   · rw [if_neg c13] at H
     have c13b0 : (t765 == t767) = false := beq_eq_false_iff_ne.mpr c13; have c13b1 : (t765 != t767) = true := bne_iff_ne.mpr c13
     exact Bool.noConfusion ((Option.some.inj H).trans hr_.out)
 · rw [if_neg c12] at H
   have c12b0 : (t785 == t787 && (t786 == t788)) = false := by simpa using c12
   (try (have c12b1 : decide (t785 = t787 && (t786 == t788)) = false := by simpa using c12)); (try (have c12b2 : (t785 == t787 && (t786 == t788)) = false := by simpa using c12)); (try (have c12b3 : ¬ (t785 = t787 && (t786 == t788)) := by simpa using c12)); clear c12
   exact Bool.noConfusion ((Option.some.inj H).trans hr_.out)

/-- THE ONE PURE STATEMENT of tumblerlaw01_WideSigns: yours. -/
def tumblerlaw01_WideSigns.Pure : Prop := ∀ (a0_0 : Int) (a0_1 : Int) (a1_0 : Int) (a1_1 : Int) (a2 : Int), (Lit.int .i64 a0_0).wf = true → (Lit.int .u64 a0_1).wf = true → (Lit.int .i64 a1_0).wf = true → (Lit.int .u64 a1_1).wf = true → (Lit.int .i64 a2).wf = true → ∃ k, tumblerlaw01_WideSigns.f k a0_0 a0_1 a1_0 a1_1 a2 = some true
theorem tumblerlaw01_WideSigns.walk (P : tumblerlaw01_WideSigns.Pure) (a0_0 : Int) (a0_1 : Int) (a1_0 : Int) (a1_1 : Int) (a2 : Int) (w : World) (hT : Aside0 (WF w)) (w0_0 : (Lit.int .i64 a0_0).wf = true) (w0_1 : (Lit.int .u64 a0_1).wf = true) (w1_0 : (Lit.int .i64 a1_0).wf = true) (w1_1 : (Lit.int .u64 a1_1).wf = true) (w2 : (Lit.int .i64 a2).wf = true) :
 Calls Tryd.prog 12 #[.agg #[.int .i64 a0_0, .int .u64 a0_1], .agg #[.int .i64 a1_0, .int .u64 a1_1], .int .i64 a2] w fun e w' => e = .returned (.bool true) ∧ Below w.heap.size w w' := by
 obtain ⟨k, h⟩ := P a0_0 a0_1 a1_0 a1_1 a2 w0_0 w0_1 w1_0 w1_1 w2
 refine (tumblerlaw01_WideSigns.calls k a0_0 a0_1 a1_0 a1_1 a2 true w hT ⟨rfl⟩ h).mono ?_
 rintro e w' ⟨rfl, hd⟩
 exact ⟨rfl, hd⟩

end Go.Proofs.YtcfhmbhlibhlnaaDoor.P
