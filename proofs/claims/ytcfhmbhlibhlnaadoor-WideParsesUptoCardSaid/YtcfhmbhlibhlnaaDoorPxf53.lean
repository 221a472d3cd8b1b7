-- Printed by this session's own pp.py (wip/tool) out of the translation.
import Derived.Test.YtcfhmbhlibhlnaaDoorPx0
import Derived.Test.YtcfhmbhlibhlnaaDoorPxf81
import Derived.Test.YtcfhmbhlibhlnaaDoorPxf73
import Derived.Test.YtcfhmbhlibhlnaaDoorPxf74
import Derived.Test.YtcfhmbhlibhlnaaDoorPxf77
import Derived.Test.YtcfhmbhlibhlnaaDoorPxf85
import Derived.Test.YtcfhmbhlibhlnaaDoorPxf86
namespace Go.Proofs.YtcfhmbhlibhlnaaDoor.P
open Go.RowKit Go.Proofs.YtcfhmbhlibhlnaaDoorW.PrintWords Go.Proofs.YtcfhmbhlibhlnaaDoorW.PrintLast Go.Proofs.YtcfhmbhlibhlnaaDoorW.PrintMore Go.Proofs.YtcfhmbhlibhlnaaDoor.Mine
attribute [local go_sem] ext71 ext79 eqA61 eqA62
attribute [local go_sem] max2_int min2_int max_two min_two max_three min_three max_four min_four   -- for this text's walks alone
set_option linter.unusedVariables false
set_option linter.unusedSimpArgs false

/-! ### tumblerref01_Parse: function 53 -/
mutual
def tumblerref01_Parse.j0 : Nat → ByteArray → Bool → Option (Int × Int × Int)
 | 0, _, _ => none
 | k + 1, x0, x4 => if x4 = true then (if 1 ≤ (x0.size : Int) then (tumblerref01_Parse.j1 k x4 (x0.extract 1 x0.size)) else (none)) else (tumblerref01_Parse.j1 k x4 x0)
def tumblerref01_Parse.j1 : Nat → Bool → ByteArray → Option (Int × Int × Int)
 | 0, _, _ => none
 | k + 1, x4, x5 => (tumblerref01_Digits.f k x5).bind fun t882 => (if t882 = true then (if x4 = true then (tumblerref01_Parse.j2 k x4 x5 (x5.toList == ([48] : List UInt8))) else (tumblerref01_Parse.j2 k x4 x5 false)) else (tumblerref01_Parse.j2 k x4 x5 true))
def tumblerref01_Parse.j2 : Nat → Bool → ByteArray → Bool → Option (Int × Int × Int)
 | 0, _, _, _ => none
 | k + 1, x4, x5, x29 => if x29 = true then (some (0, 0, 12)) else (if (x5.size : Int) > 40 then (some (0, 0, 10)) else (tumblerref01_Parse.l0 k x4 x5 0 false ([] : List Int)))
def tumblerref01_Parse.l0 : Nat → Bool → ByteArray → Int → Bool → List Int → Option (Int × Int × Int)
 | 0, _, _, _, _, _ => none
 | k + 1, x4, x5, x7, x884000, x884001 => if x7 < (x5.size : Int) then ((tumblerref01_Int.f k 10).bind fun bt891 => ((tumblerref01_MulN.f k x884000 x884001 bt891.1 bt891.2).bind fun bt895 => (if 0 ≤ x7 then ((tumblerref01_Int.f k (((bt x5 x7) - 48) % 256)).bind fun bt899 => ((tumblerref01_AddN.f k bt895.1 bt895.2 bt899.1 bt899.2).bind fun bt903 => (tumblerref01_Parse.l0 k x4 x5 (wrap64 (x7 + 1)) bt903.1 bt903.2))) else (none)))) else ((tumblerref01_make2.f k x4 x884001).bind fun bt884 => ((tumblerref01_over.f k bt884.1 bt884.2).bind fun bt888 => (some (bt888.1, bt888.2.1, bt888.2.2))))
end
def tumblerref01_Parse.f (k : Nat) (a0 : ByteArray) : Option (Int × Int × Int) := if (a0.size : Int) > 0 then (if 0 < (a0.size : Int) then (tumblerref01_Parse.j0 k a0 ((bt a0 0) == 45)) else (none)) else (tumblerref01_Parse.j0 k a0 false)
theorem tumblerref01_Parse.mono_l : ∀ k, (∀ y0 y1, LeO (tumblerref01_Parse.j0 k y0 y1) (tumblerref01_Parse.j0 (k + 1) y0 y1)) ∧ (∀ y0 y1, LeO (tumblerref01_Parse.j1 k y0 y1) (tumblerref01_Parse.j1 (k + 1) y0 y1)) ∧ (∀ y0 y1 y2, LeO (tumblerref01_Parse.j2 k y0 y1 y2) (tumblerref01_Parse.j2 (k + 1) y0 y1 y2)) ∧ (∀ y0 y1 y2 y3 y4, LeO (tumblerref01_Parse.l0 k y0 y1 y2 y3 y4) (tumblerref01_Parse.l0 (k + 1) y0 y1 y2 y3 y4))
 | 0 => ⟨fun _ _ r h => by simp [tumblerref01_Parse.j0] at h, fun _ _ r h => by simp [tumblerref01_Parse.j1] at h, fun _ _ _ r h => by simp [tumblerref01_Parse.j2] at h, fun _ _ _ _ _ r h => by simp [tumblerref01_Parse.l0] at h⟩
 | k + 1 => by
  obtain ⟨ih0, ih1, ih2, ih3⟩ := tumblerref01_Parse.mono_l k
  refine ⟨?_, ?_, ?_, ?_⟩
  · intro y0 y1
    unfold tumblerref01_Parse.j0
    repeat' first
    | (with_reducible exact ih0 _ _)
    | (with_reducible exact ih1 _ _)
    | (with_reducible exact ih2 _ _ _)
    | (with_reducible exact ih3 _ _ _ _ _)
    | (with_reducible exact tumblerref01_AddN.mono _ _ _ _ _)
    | (with_reducible exact tumblerref01_Digits.mono _ _)
    | (with_reducible exact tumblerref01_Int.mono _ _)
    | (with_reducible exact tumblerref01_MulN.mono _ _ _ _ _)
    | (with_reducible exact tumblerref01_make2.mono _ _ _)
    | (with_reducible exact tumblerref01_over.mono _ _ _)
    | (with_reducible exact LeO.refl _)
    | (with_reducible exact LeO.none _)
    | (with_reducible refine LeO.ite ?_ ?_)
    | (with_reducible refine LeO.bind ?_ (fun _ => ?_))
    | exact ih0 _ _
    | exact ih1 _ _
    | exact ih2 _ _ _
    | exact ih3 _ _ _ _ _
    | exact tumblerref01_AddN.mono _ _ _ _ _
    | exact tumblerref01_Digits.mono _ _
    | exact tumblerref01_Int.mono _ _
    | exact tumblerref01_MulN.mono _ _ _ _ _
    | exact tumblerref01_make2.mono _ _ _
    | exact tumblerref01_over.mono _ _ _
    | exact LeO.none _
    | refine LeO.ite ?_ ?_
    | refine LeO.bind ?_ (fun _ => ?_)
  · intro y0 y1
    unfold tumblerref01_Parse.j1
    repeat' first
    | (with_reducible exact ih0 _ _)
    | (with_reducible exact ih1 _ _)
    | (with_reducible exact ih2 _ _ _)
    | (with_reducible exact ih3 _ _ _ _ _)
    | (with_reducible exact tumblerref01_AddN.mono _ _ _ _ _)
    | (with_reducible exact tumblerref01_Digits.mono _ _)
    | (with_reducible exact tumblerref01_Int.mono _ _)
    | (with_reducible exact tumblerref01_MulN.mono _ _ _ _ _)
    | (with_reducible exact tumblerref01_make2.mono _ _ _)
    | (with_reducible exact tumblerref01_over.mono _ _ _)
    | (with_reducible exact LeO.refl _)
    | (with_reducible exact LeO.none _)
    | (with_reducible refine LeO.ite ?_ ?_)
    | (with_reducible refine LeO.bind ?_ (fun _ => ?_))
    | exact ih0 _ _
    | exact ih1 _ _
    | exact ih2 _ _ _
    | exact ih3 _ _ _ _ _
    | exact tumblerref01_AddN.mono _ _ _ _ _
    | exact tumblerref01_Digits.mono _ _
    | exact tumblerref01_Int.mono _ _
    | exact tumblerref01_MulN.mono _ _ _ _ _
    | exact tumblerref01_make2.mono _ _ _
    | exact tumblerref01_over.mono _ _ _
    | exact LeO.none _
    | refine LeO.ite ?_ ?_
    | refine LeO.bind ?_ (fun _ => ?_)
  · intro y0 y1 y2
    unfold tumblerref01_Parse.j2
    repeat' first
    | (with_reducible exact ih0 _ _)
    | (with_reducible exact ih1 _ _)
    | (with_reducible exact ih2 _ _ _)
    | (with_reducible exact ih3 _ _ _ _ _)
    | (with_reducible exact tumblerref01_AddN.mono _ _ _ _ _)
    | (with_reducible exact tumblerref01_Digits.mono _ _)
    | (with_reducible exact tumblerref01_Int.mono _ _)
    | (with_reducible exact tumblerref01_MulN.mono _ _ _ _ _)
    | (with_reducible exact tumblerref01_make2.mono _ _ _)
    | (with_reducible exact tumblerref01_over.mono _ _ _)
    | (with_reducible exact LeO.refl _)
    | (with_reducible exact LeO.none _)
    | (with_reducible refine LeO.ite ?_ ?_)
    | (with_reducible refine LeO.bind ?_ (fun _ => ?_))
    | exact ih0 _ _
    | exact ih1 _ _
    | exact ih2 _ _ _
    | exact ih3 _ _ _ _ _
    | exact tumblerref01_AddN.mono _ _ _ _ _
    | exact tumblerref01_Digits.mono _ _
    | exact tumblerref01_Int.mono _ _
    | exact tumblerref01_MulN.mono _ _ _ _ _
    | exact tumblerref01_make2.mono _ _ _
    | exact tumblerref01_over.mono _ _ _
    | exact LeO.none _
    | refine LeO.ite ?_ ?_
    | refine LeO.bind ?_ (fun _ => ?_)
  · intro y0 y1 y2 y3 y4
    unfold tumblerref01_Parse.l0
    repeat' first
    | (with_reducible exact ih0 _ _)
    | (with_reducible exact ih1 _ _)
    | (with_reducible exact ih2 _ _ _)
    | (with_reducible exact ih3 _ _ _ _ _)
    | (with_reducible exact tumblerref01_AddN.mono _ _ _ _ _)
    | (with_reducible exact tumblerref01_Digits.mono _ _)
    | (with_reducible exact tumblerref01_Int.mono _ _)
    | (with_reducible exact tumblerref01_MulN.mono _ _ _ _ _)
    | (with_reducible exact tumblerref01_make2.mono _ _ _)
    | (with_reducible exact tumblerref01_over.mono _ _ _)
    | (with_reducible exact LeO.refl _)
    | (with_reducible exact LeO.none _)
    | (with_reducible refine LeO.ite ?_ ?_)
    | (with_reducible refine LeO.bind ?_ (fun _ => ?_))
    | exact ih0 _ _
    | exact ih1 _ _
    | exact ih2 _ _ _
    | exact ih3 _ _ _ _ _
    | exact tumblerref01_AddN.mono _ _ _ _ _
    | exact tumblerref01_Digits.mono _ _
    | exact tumblerref01_Int.mono _ _
    | exact tumblerref01_MulN.mono _ _ _ _ _
    | exact tumblerref01_make2.mono _ _ _
    | exact tumblerref01_over.mono _ _ _
    | exact LeO.none _
    | refine LeO.ite ?_ ?_
    | refine LeO.bind ?_ (fun _ => ?_)
theorem tumblerref01_Parse.mono : ∀ a0 k, LeO (tumblerref01_Parse.f k a0) (tumblerref01_Parse.f (k + 1) a0) := by
 intro a0 k
 obtain ⟨ih0, ih1, ih2, ih3⟩ := tumblerref01_Parse.mono_l k
 unfold tumblerref01_Parse.f
 repeat' first
  | (with_reducible exact ih0 _ _)
  | (with_reducible exact ih1 _ _)
  | (with_reducible exact ih2 _ _ _)
  | (with_reducible exact ih3 _ _ _ _ _)
  | (with_reducible exact tumblerref01_AddN.mono _ _ _ _ _)
  | (with_reducible exact tumblerref01_Digits.mono _ _)
  | (with_reducible exact tumblerref01_Int.mono _ _)
  | (with_reducible exact tumblerref01_MulN.mono _ _ _ _ _)
  | (with_reducible exact tumblerref01_make2.mono _ _ _)
  | (with_reducible exact tumblerref01_over.mono _ _ _)
  | (with_reducible exact LeO.refl _)
  | (with_reducible exact LeO.none _)
  | (with_reducible refine LeO.ite ?_ ?_)
  | (with_reducible refine LeO.bind ?_ (fun _ => ?_))
  | exact ih0 _ _
  | exact ih1 _ _
  | exact ih2 _ _ _
  | exact ih3 _ _ _ _ _
  | exact tumblerref01_AddN.mono _ _ _ _ _
  | exact tumblerref01_Digits.mono _ _
  | exact tumblerref01_Int.mono _ _
  | exact tumblerref01_MulN.mono _ _ _ _ _
  | exact tumblerref01_make2.mono _ _ _
  | exact tumblerref01_over.mono _ _ _
  | exact LeO.none _
  | refine LeO.ite ?_ ?_
  | refine LeO.bind ?_ (fun _ => ?_)
def tumblerref01_Parse.T13 : Bool × List (List Nat × List Nat) := (true, [([], []), ([], []), ([0, 1, 1], [0, 1]), ([], []), ([], []), ([3, 4], [3, 4]), ([5], [5]), ([6], [6]), ([7, 2], [7]), ([2, 8, 8], [2, 8]), ([9, 9, 0, 1, 2, 3, 4, 5, 6, 7, 8, 9], [9])])
def tumblerref01_Parse.B13 : List Nat := [0, 0, 3, 0, 0, 24, 56, 120, 255, 511, 1023]
theorem tumblerref01_Parse.tab13 : rtab .any (opsOf Tryd.f53 13) = tumblerref01_Parse.T13 := by kernel_rfl
theorem tumblerref01_Parse.bits13 : waitsOk tumblerref01_Parse.T13.2 tumblerref01_Parse.B13 = true := by kernel_rfl
theorem i64_u8 (x : Int) : wrap64 (IntKind.u8.wrap x) = x % 256 := by
  rw [show IntKind.u8.wrap x = x % 256 by simp [IntKind.wrap, IntKind.bits, IntKind.signed]]; unfold wrap64; omega
set_option maxHeartbeats 8000000 in
set_option maxRecDepth 100000 in
theorem tumblerref01_Parse.calls (k : Nat) (a0 : ByteArray) (r1 : Int) (r2 : Int) (r3 : Int) (w : World) (h : tumblerref01_Parse.f k a0 = some (r1, r2, r3)) :
 Calls Tryd.prog 53 #[.string a0] w fun e w' => e = .returned (.tuple #[.agg #[.int .i64 r1, .int .u64 r2], .int .i64 r3]) ∧ Below w.heap.size w w' := by
 have hu24 := Tryd.underlying24; have hu71 := Tryd.underlying71; have HB := am (Below.refl w.heap.size w); have H : (if (a0.size : Int) > 0 then (if 0 < (a0.size : Int) then (tumblerref01_Parse.j0 k a0 ((bt a0 0) == 45)) else (none)) else (tumblerref01_Parse.j0 k a0 false)) = some (r1, r2, r3) := h; clear h; have HC2 := Aside0.mk H; clear H
 go_enter Tryd.func53, Tryd.ntmps53
 go_upto_region 1 with (first | ((with_reducible refine gate_dst (N := 2) rfl ?_); refine box_event ?hg (N := 2) ?hd (cs := #[.int .i64 0, .int .u64 0]) (t := 24) ?hr ?_; (case hd => rfl); (case hg => rfl); (case hr => first | (go_simp; done) | (go_simp; rfl)); intro gb881 hg w3 hbox hb; have n0_ := am (below_step bz hb); have n1_ := am (hbox); have n2_ := am ((by rw [hg]; exact (below_size bz) : w.heap.size ≤ gb881)); have n3_ := am ((by rw [hg]; exact (below_size bz) : w.heap.size ≤ gb881)); clear HB; have HB := n0_; have BK881 := n1_; have GW881 := n2_; have GE881 := n3_; clear n0_ n1_ n2_ n3_; clear hb hbox hg))
 (try simp only [Act.put, List.setIfInBounds_toArray, List.set_cons_zero, List.set_cons_succ])
 go_cut [4] (fun v4 wc => ∃ (kq : Nat) (x4_1 : Bool), v4 = .bool x4_1 ∧ Aside0 (tumblerref01_Parse.j0 kq a0 x4_1 = some (r1, r2, r3)) ∧ Aside0 (kq ≤ k) ∧ Aside0 (wc.heap[gb881]? = some (.cells #[.int .i64 0, .int .u64 0] 24 (0, 0))) ∧ Aside0 (Below w.heap.size w wc))
 case first =>
  have H := HC2.out; clear HC2
  by_cases c4 : (a0.size : Int) > 0
  · rw [if_pos c4] at H
    have c4b0 : decide (0 < (a0.size : Int)) = true := decide_eq_true c4; have c4b1 : decide (0 < a0.size) = true := decide_eq_true (by omega); clear c4
    (first | rw [c4b0] | (simp only [i64_w, i32_w]; rw [c4b0]) | skip)
    by_cases c5 : 0 < (a0.size : Int)
    · rw [if_pos c5] at H
      have c5b0 : decide (0 < (a0.size : Int)) = true := decide_eq_true c5; have c5b1 : decide (0 < a0.size) = true := decide_eq_true (by omega); clear c5; have H' := Aside0.mk H; clear H; have p6 : 0 ≤ (0 : Int) := (by omega); have q6 : 0 < a0.size := (by have : (0 : Int) < (a0.size : Int) := of_decide_eq_true (by first | (with_reducible assumption) | assumption); omega)
      have hx6 : ∀ h : 0 < a0.size, ((a0[0]'h).toNat : Int) = bt a0 0 := bt_at a0 0
      clear p6; have qi6 : (0 < (a0.size : Int)) = True := eq_true (of_decide_eq_true (by first | (with_reducible assumption) | assumption))
      replace q6 := eq_true q6
      go_wp2
      go_meet
      case rel => exact ⟨_, (((bt a0 0) == 45)), (by first | rfl | (simp; done) | (simp [*]; done)), H', ⟨by first | omega | exact Nat.le_refl _⟩, ⟨by (with_reducible repeat (first | apply bA | apply bB | apply bC)); exact BK881.out⟩, ⟨by repeat (first | (with_reducible first | exact HB.out | apply dA | apply dB | apply dC | refine dE ?_ ‹_›) | exact HB.out)⟩⟩
    · rw [if_neg c5] at H
      exact absurd H (by simp)
  · rw [if_neg c4] at H
    have c4b0 : decide (0 < (a0.size : Int)) = false := decide_eq_false c4; have c4b1 : decide (0 < a0.size) = false := decide_eq_false (by omega); clear c4
    (first | rw [c4b0] | (simp only [i64_w, i32_w]; rw [c4b0]) | skip)
    have H' := Aside0.mk H; clear H
    go_wp2
    go_meet
    case rel => exact ⟨_, (false), (by first | rfl | (simp; done) | (simp [*]; done)), H', ⟨by first | omega | exact Nat.le_refl _⟩, ⟨by (with_reducible repeat (first | apply bA | apply bB | apply bC)); exact BK881.out⟩, ⟨by repeat (first | (with_reducible first | exact HB.out | apply dA | apply dB | apply dC | refine dE ?_ ‹_›) | exact HB.out)⟩⟩
 case rest =>
  clear HC2
  try clear p2
  try clear c4
  try clear c4b0
  try clear c4b1
  try clear c5
  try clear c5b0
  try clear c5b1
  try clear p6
  try clear q6
  try clear hx6
  try clear qi6
  try clear p6
  try clear q6
  obtain ⟨kq, x4_1, rfl, HA, HJ1, BK881, HB⟩ := hcut
  cases kq with
  | zero => exact absurd HA.out (by simp [tumblerref01_Parse.j0])
  | succ kj1 =>
   have H := HA.out; clear HA
   simp only [tumblerref01_Parse.j0] at H
   have HC7 := Aside0.mk H; clear H
   go_upto_if 17 with (fail)
   go_cut [5] (fun v5 wc => ∃ (kq : Nat) (x5_6 : ByteArray), v5 = .string x5_6 ∧ Aside0 (tumblerref01_Parse.j1 kq x4_1 x5_6 = some (r1, r2, r3)) ∧ Aside0 (kq ≤ kj1) ∧ Aside0 (wc.heap[gb881]? = some (.cells #[.int .i64 0, .int .u64 0] 24 (0, 0))) ∧ Aside0 (Below w.heap.size w wc))
   case first =>
    have H := HC7.out; clear HC7
    by_cases c8 : x4_1 = true
    · subst c8
      have H1 : (if 1 ≤ (a0.size : Int) then (tumblerref01_Parse.j1 kj1 true (a0.extract 1 a0.size)) else (none)) = some (r1, r2, r3) := by rw [if_pos rfl] at H; exact H
      clear H; have H := H1; clear H1
      by_cases c9 : 1 ≤ (a0.size : Int)
      · rw [if_pos c9] at H
        have c9b0 := eq_true c9; have c9b1 : decide (1 ≤ (a0.size : Int)) = true := decide_eq_true c9; clear c9; have H' := Aside0.mk H; clear H
        go_wp2
        go_meet
        case rel => exact ⟨_, (a0.extract 1 a0.size), (by first | rfl | (simp; done) | (simp [*]; done)), H', ⟨by have := HJ1.out; first | omega | exact Nat.le_refl _⟩, ⟨by (with_reducible repeat (first | apply bA | apply bB | apply bC)); exact BK881.out⟩, ⟨by repeat (first | (with_reducible first | exact HB.out | apply dA | apply dB | apply dC | refine dE ?_ ‹_›) | exact HB.out)⟩⟩
      · rw [if_neg c9] at H
        exact absurd H (by simp)
    · replace c8 := Bool.eq_false_iff.mpr c8
      subst c8
      have H1 : (tumblerref01_Parse.j1 kj1 false a0) = some (r1, r2, r3) := by rw [if_neg (show ¬ (false = true) by decide)] at H; exact H
      clear H; have H := H1; clear H1; have H' := Aside0.mk H; clear H
      go_wp2
      go_meet
      case rel => exact ⟨_, (a0), (by first | rfl | (simp; done) | (simp [*]; done)), H', ⟨by have := HJ1.out; first | omega | exact Nat.le_refl _⟩, ⟨by (with_reducible repeat (first | apply bA | apply bB | apply bC)); exact BK881.out⟩, ⟨by repeat (first | (with_reducible first | exact HB.out | apply dA | apply dB | apply dC | refine dE ?_ ‹_›) | exact HB.out)⟩⟩
   case rest =>
    clear HC7
    try clear p2
    try clear c4
    try clear c4b0
    try clear c4b1
    try clear c5
    try clear c5b0
    try clear c5b1
    try clear p6
    try clear q6
    try clear hx6
    try clear qi6
    try clear c8
    try clear c9
    try clear c9b0
    try clear c9b1
    try clear p2
    try clear p6
    try clear q6
    obtain ⟨kq, x5_6, rfl, HA, HJ6, BK881, HB⟩ := hcut
    cases kq with
    | zero => exact absurd HA.out (by simp [tumblerref01_Parse.j1])
    | succ kj6 =>
     have H := HA.out; clear HA
     simp only [tumblerref01_Parse.j1] at H
     have HC10 := Aside0.mk H; clear H
     go_upto_region 5 with (fail)
     go_cut [29] (fun v29 wc => ∃ (kq : Nat) (x29_9 : Bool), v29 = .bool x29_9 ∧ Aside0 (tumblerref01_Parse.j2 kq x4_1 x5_6 x29_9 = some (r1, r2, r3)) ∧ Aside0 (kq ≤ kj6) ∧ Aside0 (wc.heap[gb881]? = some (.cells #[.int .i64 0, .int .u64 0] 24 (0, 0))) ∧ Aside0 (Below w.heap.size w wc))
     case first =>
      have H := HC10.out; clear HC10
      replace H := Option.bind_eq_some_iff.mp H
      obtain ⟨t882, A110, H⟩ := H
      replace H : (if t882 = true then (if x4_1 = true then (tumblerref01_Parse.j2 kj6 x4_1 x5_6 (x5_6.toList == ([48] : List UInt8))) else (tumblerref01_Parse.j2 kj6 x4_1 x5_6 false)) else (tumblerref01_Parse.j2 kj6 x4_1 x5_6 true)) = some (r1, r2, r3) := H
      have A11 := Aside0.mk A110; clear A110
      by_cases c12 : t882 = true
      · subst c12
        have H1 : (if x4_1 = true then (tumblerref01_Parse.j2 kj6 x4_1 x5_6 (x5_6.toList == ([48] : List UInt8))) else (tumblerref01_Parse.j2 kj6 x4_1 x5_6 false)) = some (r1, r2, r3) := by rw [if_pos rfl] at H; exact H
        clear H; have H := H1; clear H1
        by_cases c13 : x4_1 = true
        · subst c13
          have H1 : (tumblerref01_Parse.j2 kj6 true x5_6 (x5_6.toList == ([48] : List UInt8))) = some (r1, r2, r3) := by rw [if_pos rfl] at H; exact H
          clear H; have H := H1; clear H1; have H' := Aside0.mk H; clear H
          go_wp2_with (first | ((with_reducible refine gate_callee (f := 85) rfl ?_); refine goesL_ (some 21) rfl rfl Tryd.func85 (by kernel_rfl) rfl #[.string x5_6] rfl (by (try simp only [List.map_toArray, List.map_cons, List.map_nil]); first | done | rfl | (simp only [List.length_drop, List.length_take]; rfl)) ?_; (with_reducible refine (tumblerref01_Digits.calls kj6 x5_6 true _ A11.out).mono ?_); rintro e w' ⟨rfl, ⟨nd, rfl⟩⟩; refine ⟨_, rfl, ?_⟩))
          go_meet
          case rel => exact ⟨_, ((x5_6.toList == ([48] : List UInt8))), (by first | rfl | (simp; done) | (simp [*]; done)), H', ⟨by have := HJ1.out; have := HJ6.out; first | omega | exact Nat.le_refl _⟩, ⟨by (with_reducible repeat (first | apply bA | apply bB | apply bC)); exact BK881.out⟩, ⟨by repeat (first | (with_reducible first | exact HB.out | apply dA | apply dB | apply dC | refine dE ?_ ‹_›) | exact HB.out)⟩⟩
        · replace c13 := Bool.eq_false_iff.mpr c13
          subst c13
          have H1 : (tumblerref01_Parse.j2 kj6 false x5_6 false) = some (r1, r2, r3) := by rw [if_neg (show ¬ (false = true) by decide)] at H; exact H
          clear H; have H := H1; clear H1; have H' := Aside0.mk H; clear H
          go_wp2_with (first | ((with_reducible refine gate_callee (f := 85) rfl ?_); refine goesL_ (some 21) rfl rfl Tryd.func85 (by kernel_rfl) rfl #[.string x5_6] rfl (by (try simp only [List.map_toArray, List.map_cons, List.map_nil]); first | done | rfl | (simp only [List.length_drop, List.length_take]; rfl)) ?_; (with_reducible refine (tumblerref01_Digits.calls kj6 x5_6 true _ A11.out).mono ?_); rintro e w' ⟨rfl, ⟨nd, rfl⟩⟩; refine ⟨_, rfl, ?_⟩))
          go_meet
          case rel => exact ⟨_, (false), (by first | rfl | (simp; done) | (simp [*]; done)), H', ⟨by have := HJ1.out; have := HJ6.out; first | omega | exact Nat.le_refl _⟩, ⟨by (with_reducible repeat (first | apply bA | apply bB | apply bC)); exact BK881.out⟩, ⟨by repeat (first | (with_reducible first | exact HB.out | apply dA | apply dB | apply dC | refine dE ?_ ‹_›) | exact HB.out)⟩⟩
      · replace c12 := Bool.eq_false_iff.mpr c12
        subst c12
        have H1 : (tumblerref01_Parse.j2 kj6 x4_1 x5_6 true) = some (r1, r2, r3) := by rw [if_neg (show ¬ (false = true) by decide)] at H; exact H
        clear H; have H := H1; clear H1; have H' := Aside0.mk H; clear H
        go_wp2_with (first | ((with_reducible refine gate_callee (f := 85) rfl ?_); refine goesL_ (some 21) rfl rfl Tryd.func85 (by kernel_rfl) rfl #[.string x5_6] rfl (by (try simp only [List.map_toArray, List.map_cons, List.map_nil]); first | done | rfl | (simp only [List.length_drop, List.length_take]; rfl)) ?_; (with_reducible refine (tumblerref01_Digits.calls kj6 x5_6 false _ A11.out).mono ?_); rintro e w' ⟨rfl, ⟨nd, rfl⟩⟩; refine ⟨_, rfl, ?_⟩))
        go_meet
        case rel => exact ⟨_, (true), (by first | rfl | (simp; done) | (simp [*]; done)), H', ⟨by have := HJ1.out; have := HJ6.out; first | omega | exact Nat.le_refl _⟩, ⟨by (with_reducible repeat (first | apply bA | apply bB | apply bC)); exact BK881.out⟩, ⟨by repeat (first | (with_reducible first | exact HB.out | apply dA | apply dB | apply dC | refine dE ?_ ‹_›) | exact HB.out)⟩⟩
     case rest =>
      clear HC10
      try clear c1
      try clear p2
      try clear c4
      try clear c4b0
      try clear c4b1
      try clear c5
      try clear c5b0
      try clear c5b1
      try clear p6
      try clear q6
      try clear hx6
      try clear qi6
      try clear c8
      try clear c9
      try clear c9b0
      try clear c9b1
      try clear c12
      try clear c13
      try clear p2
      try clear p6
      try clear q6
      obtain ⟨kq, x29_9, rfl, HA, HJ9, BK881, HB⟩ := hcut
      cases kq with
      | zero => exact absurd HA.out (by simp [tumblerref01_Parse.j2])
      | succ kj9 =>
       have H := HA.out; clear HA
       simp only [tumblerref01_Parse.j2] at H
       by_cases c14 : x29_9 = true
       · subst c14
         have H1 : (some (0, 0, 12)) = some (r1, r2, r3) := by rw [if_pos rfl] at H; exact H
         clear H; have H := H1; clear H1
         simp only [Option.some.injEq, Prod.mk.injEq] at H
         obtain ⟨rfl, rfl, rfl⟩ := H
         have hcz15_0 : wc.cell? ⟨gb881, 0, none⟩ = some (.int .i64 0) := (blk_cell BK881.out 0).trans rfl; have hcz15_1 : wc.cell? ⟨gb881, 1, none⟩ = some (.int .u64 0) := (blk_cell BK881.out 1).trans rfl; have hfz15_0 := blk_frozen BK881.out 0; have hfz15_1 := blk_frozen BK881.out 1
         go_wp2
         refine bodyPost_ret (results_ct rfl _ _ gb881 24 #[.int .i64 0, .int .u64 0] (0, 0) _ rfl (by (with_reducible repeat (first | apply bA | apply bB | apply bC)); refine blk_put (cs := #[.int .i64 0, .int .u64 0]) ?_ 1 _ rfl; (with_reducible repeat (first | apply bA | apply bB | apply bC)); refine blk_put (cs := #[.int .i64 0, .int .u64 0]) ?_ 0 _ rfl; (with_reducible repeat (first | apply bA | apply bB | apply bC)); exact BK881.out) Tryd.underlying24 rfl (by kernel_rfl)) rfl ?_
         exact ⟨by first | rfl | (simp [errW_none, errW_some] <;> rfl) | (simp [*, errW_none, errW_some] <;> rfl), by repeat (first | (with_reducible first | exact HB.out | apply dA | apply dB | apply dC | refine dE ?_ ‹_›) | exact HB.out)⟩
       · replace c14 := Bool.eq_false_iff.mpr c14
         subst c14
         have H1 : (if (x5_6.size : Int) > 40 then (some (0, 0, 10)) else (tumblerref01_Parse.l0 kj9 x4_1 x5_6 0 false ([] : List Int))) = some (r1, r2, r3) := by rw [if_neg (show ¬ (false = true) by decide)] at H; exact H
         clear H; have H := H1; clear H1
         by_cases c16 : (x5_6.size : Int) > 40
         · rw [if_pos c16] at H
           have c16b0 : decide (40 < (x5_6.size : Int)) = true := decide_eq_true c16; have c16b1 : decide (40 < x5_6.size) = true := decide_eq_true (by omega); clear c16
           simp only [Option.some.injEq, Prod.mk.injEq] at H
           obtain ⟨rfl, rfl, rfl⟩ := H
           have hcz17_0 : wc.cell? ⟨gb881, 0, none⟩ = some (.int .i64 0) := (blk_cell BK881.out 0).trans rfl; have hcz17_1 : wc.cell? ⟨gb881, 1, none⟩ = some (.int .u64 0) := (blk_cell BK881.out 1).trans rfl; have hfz17_0 := blk_frozen BK881.out 0; have hfz17_1 := blk_frozen BK881.out 1
           go_wp2
           refine bodyPost_ret (results_ct rfl _ _ gb881 24 #[.int .i64 0, .int .u64 0] (0, 0) _ rfl (by (with_reducible repeat (first | apply bA | apply bB | apply bC)); refine blk_put (cs := #[.int .i64 0, .int .u64 0]) ?_ 1 _ rfl; (with_reducible repeat (first | apply bA | apply bB | apply bC)); refine blk_put (cs := #[.int .i64 0, .int .u64 0]) ?_ 0 _ rfl; (with_reducible repeat (first | apply bA | apply bB | apply bC)); exact BK881.out) Tryd.underlying24 rfl (by kernel_rfl)) rfl ?_
           exact ⟨by first | rfl | (simp [errW_none, errW_some] <;> rfl) | (simp [*, errW_none, errW_some] <;> rfl), by repeat (first | (with_reducible first | exact HB.out | apply dA | apply dB | apply dC | refine dE ?_ ‹_›) | exact HB.out)⟩
         · rw [if_neg c16] at H
           have c16b0 : decide (40 < (x5_6.size : Int)) = false := decide_eq_false c16; have c16b1 : decide (40 < x5_6.size) = false := decide_eq_false (by omega); clear c16; have H' := Aside0.mk H; clear H
           go_wp2_with (first | ((with_reducible refine gate_dst (N := 6) rfl ?_); refine box_event ?hg (N := 6) ?hd (cs := #[.bool false, .slice none 0 0]) (t := 71) ?hr ?_; (case hd => rfl); (case hg => rfl); (case hr => first | (go_simp; done) | (go_simp; rfl)); intro gb883 hg w18 hbox hb; have n0_ := am (bb BK881 hb); have n1_ := am (below_step bz hb); have n2_ := am (hbox); have n3_ := am ((by rw [hg]; exact (below_size bz) : w.heap.size ≤ gb883)); have n4_ := am ((by rw [hg]; exact (below_size bz) : w.heap.size ≤ gb883)); have n5_ := am ((by rw [hg]; exact Nat.ne_of_lt (bl BK881) : gb881 ≠ gb883)); have n6_ := am ((by rw [hg]; exact Nat.ne_of_gt (bl BK881) : gb883 ≠ gb881)); clear BK881; clear HB; have BK881 := n0_; have HB := n1_; have BK883 := n2_; have GW883 := n3_; have GE883 := n4_; have NB881_883 := n5_; have NB883_881 := n6_; clear n0_ n1_ n2_ n3_ n4_ n5_ n6_; clear hb hbox hg; have hnb19 := NB883_881.out; have hnc19 := NB881_883.out; have hcz20_0 : w18.cell? ⟨gb883, 0, none⟩ = some (.bool false) := (blk_cell BK883.out 0).trans rfl; have hcz20_1 : w18.cell? ⟨gb883, 1, none⟩ = some (.slice none 0 0) := (blk_cell BK883.out 1).trans rfl; have hfz20_0 := blk_frozen BK883.out 0; have hfz20_1 := blk_frozen BK883.out 1))
           go_loopg [7] kj9 (fun kq v7 w' => ∃ (x7_4 : Int) (x884000_4 : Bool) (x884001_4 : List Int) (u884001 : Value), v7 = .int .i64 x7_4 ∧ Aside0 (tumblerref01_Parse.l0 kq x4_1 x5_6 x7_4 x884000_4 x884001_4 = some (r1, r2, r3)) ∧ Aside0 (kq ≤ kj9) ∧ Aside0 (Kd.V (Kd.int .u32) 121 w' w.heap.size (fun k_ => k_ ≠ gb881 ∧ k_ ≠ gb883) u884001 x884001_4) ∧ Aside0 (w'.heap[gb881]? = some (.cells #[.int .i64 0, .int .u64 0] 24 (0, 0))) ∧ Aside0 (w'.heap[gb883]? = some (.cells #[.bool x884000_4, u884001] 71 (0, 0))) ∧ Aside0 (Below w.heap.size w w'))
           case atStart => exact ⟨(0), (false), (([] : List Int)), (.slice none 0 0), (by first | rfl | (simp; done) | (simp [*]; done)), H', ⟨Nat.le_refl _⟩, ⟨Kd.R_V (base := 0) (by first | exact Kd.R_nil _ _ _ _ _ | exact Kd.N_nil _ _ _ _ _ | exact Kd.V_nil _ _ _ _ _ | exact Kd.Q_nil _ _ _ _ _ | exact Kd.S_nil _ _ _ _ _)⟩, ⟨by (with_reducible repeat (first | apply bA | apply bB | apply bC)); refine blk_far ?_ NB881_883.out _; (with_reducible repeat (first | apply bA | apply bB | apply bC)); refine blk_far ?_ NB881_883.out _; (with_reducible repeat (first | apply bA | apply bB | apply bC)); exact BK881.out⟩, ⟨by (with_reducible repeat (first | apply bA | apply bB | apply bC)); refine blk_put (cs := #[.bool false, .slice none 0 0]) ?_ 1 _ rfl; (with_reducible repeat (first | apply bA | apply bB | apply bC)); refine blk_put (cs := #[.bool false, .slice none 0 0]) ?_ 0 _ rfl; (with_reducible repeat (first | apply bA | apply bB | apply bC)); exact BK883.out⟩, ⟨by repeat (first | (with_reducible first | exact HB.out | apply dA | apply dB | apply dC | refine dE ?_ ‹_›) | exact HB.out)⟩⟩
           case round =>
            clear H'
            try clear c1
            try clear p2
            try clear c4
            try clear c4b0
            try clear c4b1
            try clear c5
            try clear c5b0
            try clear c5b1
            try clear p6
            try clear q6
            try clear hx6
            try clear qi6
            try clear c8
            try clear c9
            try clear c9b0
            try clear c9b1
            try clear c12
            try clear c13
            try clear c14
            try clear c16
            try clear c16b0
            try clear c16b1
            try clear c19
            try clear hcz15_0
            try clear hcz15_1
            try clear hcz17_0
            try clear hcz17_1
            try clear hcz20_0
            try clear hcz20_1
            try clear hfz15_0
            try clear hfz15_1
            try clear hfz17_0
            try clear hfz17_1
            try clear hfz20_0
            try clear hfz20_1
            try clear p2
            try clear p6
            try clear q6
            obtain ⟨x7_4, x884000_4, x884001_4, u884001, rfl, HA, HK4, HO_884001, BK881, BK883, HB⟩ := hrel
            cases gk with
            | zero => exact absurd HA.out (by simp [tumblerref01_Parse.l0])
            | succ k4 =>
             have H := HA.out; clear HA
             simp only [tumblerref01_Parse.l0] at H
             by_cases c21 : x7_4 < (x5_6.size : Int)
             · rw [if_pos c21] at H
               have c21b0 : decide (x7_4 < (x5_6.size : Int)) = true := decide_eq_true c21; clear c21
               replace H := Option.bind_eq_some_iff.mp H
               obtain ⟨⟨t891, t892⟩, A220, H⟩ := H
               replace H : ((tumblerref01_MulN.f k4 x884000_4 x884001_4 t891 t892).bind fun bt895 => (if 0 ≤ x7_4 then ((tumblerref01_Int.f k4 (((bt x5_6 x7_4) - 48) % 256)).bind fun bt899 => ((tumblerref01_AddN.f k4 bt895.1 bt895.2 bt899.1 bt899.2).bind fun bt903 => (tumblerref01_Parse.l0 k4 x4_1 x5_6 (wrap64 (x7_4 + 1)) bt903.1 bt903.2))) else (none))) = some (r1, r2, r3) := H
               have A22 := Aside0.mk A220; clear A220
               replace H := Option.bind_eq_some_iff.mp H
               obtain ⟨⟨t895, t896⟩, A230, H⟩ := H
               replace H : (if 0 ≤ x7_4 then ((tumblerref01_Int.f k4 (((bt x5_6 x7_4) - 48) % 256)).bind fun bt899 => ((tumblerref01_AddN.f k4 t895 t896 bt899.1 bt899.2).bind fun bt903 => (tumblerref01_Parse.l0 k4 x4_1 x5_6 (wrap64 (x7_4 + 1)) bt903.1 bt903.2))) else (none)) = some (r1, r2, r3) := H
               have A23 := Aside0.mk A230; clear A230
               by_cases c24 : 0 ≤ x7_4
               · rw [if_pos c24] at H
                 have c24b0 : decide (0 ≤ x7_4) = true := decide_eq_true c24; clear c24
                 replace H := Option.bind_eq_some_iff.mp H
                 obtain ⟨⟨t899, t900⟩, A260, H⟩ := H
                 replace H : ((tumblerref01_AddN.f k4 t895 t896 t899 t900).bind fun bt903 => (tumblerref01_Parse.l0 k4 x4_1 x5_6 (wrap64 (x7_4 + 1)) bt903.1 bt903.2)) = some (r1, r2, r3) := H
                 have A26 := Aside0.mk A260; clear A260
                 replace H := Option.bind_eq_some_iff.mp H
                 obtain ⟨⟨t903, t904⟩, A270, H⟩ := H
                 replace H : (tumblerref01_Parse.l0 k4 x4_1 x5_6 (wrap64 (x7_4 + 1)) t903 t904) = some (r1, r2, r3) := H
                 have A27 := Aside0.mk A270; clear A270; have H' := Aside0.mk H; clear H
                 try go_wp2
                 have n0_ := am (Kd.V_drew HO_884001.out); have n1_ := am (blk_drew BK881.out); have n2_ := am (blk_drew BK883.out); have n3_ := am (below_drew1 HB.out); clear HO_884001 BK881 BK883 HB; have HO_884001 := n0_; have BK881 := n1_; have BK883 := n2_; have HB := n3_; clear n0_ n1_ n2_ n3_; have p25 : 0 ≤ (x7_4 : Int) := of_decide_eq_true (by first | (with_reducible assumption) | assumption); have q25 : x7_4 < (x5_6.size : Int) := of_decide_eq_true (by first | (with_reducible assumption) | assumption); have hx25 := bt_at x5_6 x7_4
                 replace p25 := eq_true p25
                 replace q25 := eq_true q25
                 refine start_ (n := 11) (S := fun w' => w'.cell? ⟨gb883, 0, none⟩ = some (.bool x884000_4) ∧ w'.cell? ⟨gb883, 1, none⟩ = some (u884001)) (ds := [10]) #[false, false, false, false, false, false, false, false, false, false, false] (by kernel_rfl) rfl rfl ⟨(blk_cell BK883.out 0).trans rfl, (blk_cell BK883.out 1).trans rfl⟩ (fun hHeld => ?_); refine with_tabW tumblerref01_Parse.tab13 tumblerref01_Parse.bits13 (fun HT_ HW_ => ?_)
                 generalize wr.drew = w28 at HO_884001 BK881 BK883 HB hHeld ⊢
                 refine pure_ (i := 3) (N := some 45) (v := ?_) (a' := ?_) #[false, false, false, true, false, false, false, false, false, false, false] rfl rfl (any_of HT_.out (by kernel_rfl)) (fun _ _ _ h => h) (Or.inl ⟨by rfl, ?_⟩) ?_ ?_
                 rotate_left
                 · intro w'
                   go_simp
                   with_reducible rfl
                 rotate_left
                 · simp only [Act.put, List.setIfInBounds_toArray, List.set_cons_zero, List.set_cons_succ, i64_w, i32_w]
                   rfl
                 refine pure_ (i := 4) (N := some 46) (v := ?_) (a' := ?_) #[false, false, false, true, true, false, false, false, false, false, false] rfl rfl (any_of HT_.out (by kernel_rfl)) (fun _ _ _ h => h) (Or.inl ⟨by rfl, ?_⟩) ?_ ?_
                 rotate_left
                 · intro w'
                   go_simp
                   with_reducible rfl
                 rotate_left
                 · simp only [Act.put, List.setIfInBounds_toArray, List.set_cons_zero, List.set_cons_succ, i64_w, i32_w]
                   rfl
                 refine take_ (i := 0) (N := some 42) (v := ?_) (a' := ?_) #[true, false, false, true, true, false, false, false, false, false, false] rfl rfl (take_ofW HT_.out HW_.out (by kernel_rfl)) (fun _ _ _ h => h) (Or.inl ⟨by rfl, ?_⟩) hHeld ?_ ?_
                 rotate_left
                 · rintro w' ⟨s0, s1⟩
                   go_simp
                   with_reducible rfl
                 rotate_left
                 · simp only [Act.put, List.setIfInBounds_toArray, List.set_cons_zero, List.set_cons_succ, i64_w, i32_w]
                   rfl
                 refine take_ (i := 5) (N := some 47) (v := ?_) (a' := ?_) #[true, false, false, true, true, true, false, false, false, false, false] rfl rfl (take_ofW HT_.out HW_.out (by kernel_rfl)) (fun _ _ _ h => h) (Or.inl ⟨by rfl, ?_⟩) hHeld ?_ ?_
                 rotate_left
                 · rintro w' ⟨s0, s1⟩
                   go_simp
                   with_reducible rfl
                 rotate_left
                 · simp only [Act.put, List.setIfInBounds_toArray, List.set_cons_zero, List.set_cons_succ, i64_w, i32_w]
                   rfl
                 refine pure_ (i := 6) (N := some 48) (v := ?_) (a' := ?_) #[true, false, false, true, true, true, true, false, false, false, false] rfl rfl (any_of HT_.out (by kernel_rfl)) (fun _ _ _ h => h) (Or.inl ⟨by rfl, ?_⟩) ?_ ?_
                 rotate_left
                 · intro w'
                   go_simp
                   with_reducible rfl
                 rotate_left
                 · simp only [Act.put, List.setIfInBounds_toArray, List.set_cons_zero, List.set_cons_succ, i64_w, i32_w]
                   rfl
                 refine pure_ (i := 7) (N := some 49) (v := ?_) (a' := ?_) #[true, false, false, true, true, true, true, true, false, false, false] rfl rfl (any_of HT_.out (by kernel_rfl)) (fun _ _ _ h => h) (Or.inl ⟨by rfl, ?_⟩) ?_ ?_
                 rotate_left
                 · intro w'
                   go_simp
                   with_reducible rfl
                 rotate_left
                 · simp only [Act.put, List.setIfInBounds_toArray, List.set_cons_zero, List.set_cons_succ, i64_w, i32_w]
                   rfl
                 refine one_ (i := 1) (N := some 43) #[true, true, false, true, true, true, true, true, false, false, false] rfl rfl (one_of HT_.out (by kernel_rfl)) (by decide) (fun K hK => ?_)
                 refine goes_ Tryd.func86 (by kernel_rfl) rfl #[.int .i64 10] (by rfl) rfl rfl (by (try simp only [List.map_toArray, List.map_cons, List.map_nil]); first | done | rfl | (simp only [List.length_drop, List.length_take]; rfl)) ?_
                 with_reducible refine (tumblerref01_Int.calls k4 10 t891 t892 _ A22.out).mono ?_
                 rintro e w29 ⟨v893, rfl, ho0, hb⟩; refine ⟨_, rfl, ?_⟩; have n0_ := am (Kd.V_below (by (with_reducible repeat (first | apply Kd.V_alloc | apply Kd.V_drewN | apply Kd.V_drew)); exact HO_884001.out) hb); have n1_ := am (Kd.V_lower (Kd.V_mono (ok' := fun k_ => k_ ≠ gb881 ∧ k_ ≠ gb883) ho0 (fun k_ hk_ => ⟨(Kd.freshB (g := gb881) (o := .cells #[.int .i64 0, .int .u64 0] 24 (0, 0)) (bq BK881) k_ hk_), (Kd.freshB (g := gb883) (o := .cells #[.bool x884000_4, u884001] 71 (0, 0)) (bq BK883) k_ hk_)⟩)) (below_size bz)); have n2_ := am (bb BK881 hb); have n3_ := am (bb BK883 hb); have n4_ := am (below_step bz hb); clear HO_884001 BK881 BK883 HB; have HO_884001 := n0_; have HO894 := n1_; have BK881 := n2_; have BK883 := n3_; have HB := n4_; clear n0_ n1_ n2_ n3_ n4_; (try clear hb); (try clear hb2); (try clear hk); (try clear hi); (try clear ho0)
                 obtain ⟨Ao30, co30, eo30⟩ := Kd.V_slice HO_884001.out
                 (first | subst eo30 | (injection eo30 with f1_ f2_ f3_; have f4_ := f1_.symm; have f5_ := f3_.symm; clear f1_ f2_ f3_; subst f4_; subst f5_))
                 obtain ⟨Ao31, co31, eo31⟩ := Kd.V_slice HO894.out
                 (first | subst eo31 | (injection eo31 with f1_ f2_ f3_; have f4_ := f1_.symm; have f5_ := f3_.symm; clear f1_ f2_ f3_; subst f4_; subst f5_))
                 refine hK.out _ _ ⟨(blk_cell BK883.out 0).trans rfl, (blk_cell BK883.out 1).trans rfl⟩ (fun hHeld => ?_)
                 clear hK K
                 refine norm_ (a' := ?_) ?_ ?_
                 rotate_left
                 · show Act.put _ (some 43) _ = _
                   simp only [Act.put, List.setIfInBounds_toArray, List.set_cons_zero, List.set_cons_succ, i64_w, i32_w]
                   rfl
                 refine one_ (i := 2) (N := some 44) #[true, true, true, true, true, true, true, true, false, false, false] rfl rfl (one_of HT_.out (by kernel_rfl)) (by decide) (fun K hK => ?_)
                 refine goes_ Tryd.func74 (by kernel_rfl) rfl #[.agg #[.bool x884000_4, .slice Ao30 x884001_4.length co30], .agg #[.bool t891, .slice Ao31 t892.length co31]] (by rfl) rfl rfl (by (try simp only [List.map_toArray, List.map_cons, List.map_nil]); first | done | rfl | (simp only [List.length_drop, List.length_take]; rfl)) ?_
                 with_reducible refine (tumblerref01_MulN.calls k4 x884000_4 _ _ x884001_4 t891 _ _ t892 t895 t896 _ ?side1 ?side2 ?side3 ?side4 A23.out).mono ?_
                 (case side1 => repeat (first | exact (Kd.V_reads' HO_884001.out).2.2 | (with_reducible refine Kd.C_alloc ?_ _) | (with_reducible refine Kd.C_drewN ?_ _) | (with_reducible refine Kd.C_drew ?_)))
                 (case side2 => exact (Kd.V_reads' HO_884001.out).2.1)
                 (case side3 => repeat (first | exact (Kd.V_reads' HO894.out).2.2 | (with_reducible refine Kd.C_alloc ?_ _) | (with_reducible refine Kd.C_drewN ?_ _) | (with_reducible refine Kd.C_drew ?_)))
                 (case side4 => exact (Kd.V_reads' HO894.out).2.1)
                 rintro e w32 ⟨v897, rfl, ho0, hb⟩; refine ⟨_, rfl, ?_⟩; have n0_ := am (Kd.V_below (by (with_reducible repeat (first | apply Kd.V_alloc | apply Kd.V_drewN | apply Kd.V_drew)); exact HO_884001.out) hb); have n1_ := am (Kd.V_below (by (with_reducible repeat (first | apply Kd.V_alloc | apply Kd.V_drewN | apply Kd.V_drew)); exact HO894.out) hb); have n2_ := am (Kd.V_lower (Kd.V_mono (ok' := fun k_ => k_ ≠ gb881 ∧ k_ ≠ gb883) ho0 (fun k_ hk_ => ⟨(Kd.freshB (g := gb881) (o := .cells #[.int .i64 0, .int .u64 0] 24 (0, 0)) (bq BK881) k_ hk_), (Kd.freshB (g := gb883) (o := .cells #[.bool x884000_4, .slice Ao30 x884001_4.length co30] 71 (0, 0)) (bq BK883) k_ hk_)⟩)) (below_size bz)); have n3_ := am (bb BK881 hb); have n4_ := am (bb BK883 hb); have n5_ := am (below_step bz hb); clear HO_884001 HO894 BK881 BK883 HB; have HO_884001 := n0_; have HO894 := n1_; have HO898 := n2_; have BK881 := n3_; have BK883 := n4_; have HB := n5_; clear n0_ n1_ n2_ n3_ n4_ n5_; (try clear hb); (try clear hb2); (try clear hk); (try clear hi); (try clear ho0)
                 refine hK.out _ _ ⟨(blk_cell BK883.out 0).trans rfl, (blk_cell BK883.out 1).trans rfl⟩ (fun hHeld => ?_)
                 clear hK K
                 refine norm_ (a' := ?_) ?_ ?_
                 rotate_left
                 · show Act.put _ (some 44) _ = _
                   simp only [Act.put, List.setIfInBounds_toArray, List.set_cons_zero, List.set_cons_succ, i64_w, i32_w]
                   rfl
                 refine one_ (i := 8) (N := some 50) #[true, true, true, true, true, true, true, true, true, false, false] rfl rfl (one_of HT_.out (by kernel_rfl)) (by decide) (fun K hK => ?_)
                 refine goes_ Tryd.func86 (by kernel_rfl) rfl #[.int .i64 (((bt x5_6 x7_4) - 48) % 256)] (by rfl) rfl rfl (by (try simp only [List.map_toArray, List.map_cons, List.map_nil]); first | done | rfl | (simp only [List.length_drop, List.length_take]; rfl) | (simp only [← i64_u8]; rfl)) ?_
                 with_reducible refine (tumblerref01_Int.calls k4 (((bt x5_6 x7_4) - 48) % 256) t899 t900 _ A26.out).mono ?_
                 rintro e w33 ⟨v901, rfl, ho0, hb⟩; refine ⟨_, rfl, ?_⟩; have n0_ := am (Kd.V_below (by (with_reducible repeat (first | apply Kd.V_alloc | apply Kd.V_drewN | apply Kd.V_drew)); exact HO_884001.out) hb); have n1_ := am (Kd.V_below (by (with_reducible repeat (first | apply Kd.V_alloc | apply Kd.V_drewN | apply Kd.V_drew)); exact HO894.out) hb); have n2_ := am (Kd.V_below (by (with_reducible repeat (first | apply Kd.V_alloc | apply Kd.V_drewN | apply Kd.V_drew)); exact HO898.out) hb); have n3_ := am (Kd.V_lower (Kd.V_mono (ok' := fun k_ => k_ ≠ gb881 ∧ k_ ≠ gb883) ho0 (fun k_ hk_ => ⟨(Kd.freshB (g := gb881) (o := .cells #[.int .i64 0, .int .u64 0] 24 (0, 0)) (bq BK881) k_ hk_), (Kd.freshB (g := gb883) (o := .cells #[.bool x884000_4, .slice Ao30 x884001_4.length co30] 71 (0, 0)) (bq BK883) k_ hk_)⟩)) (below_size bz)); have n4_ := am (bb BK881 hb); have n5_ := am (bb BK883 hb); have n6_ := am (below_step bz hb); clear HO_884001 HO894 HO898 BK881 BK883 HB; have HO_884001 := n0_; have HO894 := n1_; have HO898 := n2_; have HO902 := n3_; have BK881 := n4_; have BK883 := n5_; have HB := n6_; clear n0_ n1_ n2_ n3_ n4_ n5_ n6_; (try clear hb); (try clear hb2); (try clear hk); (try clear hi); (try clear ho0)
                 obtain ⟨Ao34, co34, eo34⟩ := Kd.V_slice HO898.out
                 (first | subst eo34 | (injection eo34 with f1_ f2_ f3_; have f4_ := f1_.symm; have f5_ := f3_.symm; clear f1_ f2_ f3_; subst f4_; subst f5_))
                 obtain ⟨Ao35, co35, eo35⟩ := Kd.V_slice HO902.out
                 (first | subst eo35 | (injection eo35 with f1_ f2_ f3_; have f4_ := f1_.symm; have f5_ := f3_.symm; clear f1_ f2_ f3_; subst f4_; subst f5_))
                 refine hK.out _ _ ⟨(blk_cell BK883.out 0).trans rfl, (blk_cell BK883.out 1).trans rfl⟩ (fun hHeld => ?_)
                 clear hK K
                 refine norm_ (a' := ?_) ?_ ?_
                 rotate_left
                 · show Act.put _ (some 50) _ = _
                   simp only [Act.put, List.setIfInBounds_toArray, List.set_cons_zero, List.set_cons_succ, i64_w, i32_w]
                   rfl
                 refine one_ (i := 9) (N := some 51) #[true, true, true, true, true, true, true, true, true, true, false] rfl rfl (one_of HT_.out (by kernel_rfl)) (by decide) (fun K hK => ?_)
                 refine goes_ Tryd.func77 (by kernel_rfl) rfl #[.agg #[.bool t895, .slice Ao34 t896.length co34], .agg #[.bool t899, .slice Ao35 t900.length co35]] (by rfl) rfl rfl (by (try simp only [List.map_toArray, List.map_cons, List.map_nil]); first | done | rfl | (simp only [List.length_drop, List.length_take]; rfl)) ?_
                 with_reducible refine (tumblerref01_AddN.calls k4 t895 _ _ t896 t899 _ _ t900 t903 t904 _ ?side1 ?side2 ?side3 ?side4 A27.out).mono ?_
                 (case side1 => repeat (first | exact (Kd.V_reads' HO898.out).2.2 | (with_reducible refine Kd.C_alloc ?_ _) | (with_reducible refine Kd.C_drewN ?_ _) | (with_reducible refine Kd.C_drew ?_)))
                 (case side2 => exact (Kd.V_reads' HO898.out).2.1)
                 (case side3 => repeat (first | exact (Kd.V_reads' HO902.out).2.2 | (with_reducible refine Kd.C_alloc ?_ _) | (with_reducible refine Kd.C_drewN ?_ _) | (with_reducible refine Kd.C_drew ?_)))
                 (case side4 => exact (Kd.V_reads' HO902.out).2.1)
                 rintro e w36 ⟨v905, rfl, ho0, hb⟩; refine ⟨_, rfl, ?_⟩; have n0_ := am (Kd.V_below (by (with_reducible repeat (first | apply Kd.V_alloc | apply Kd.V_drewN | apply Kd.V_drew)); exact HO_884001.out) hb); have n1_ := am (Kd.V_below (by (with_reducible repeat (first | apply Kd.V_alloc | apply Kd.V_drewN | apply Kd.V_drew)); exact HO894.out) hb); have n2_ := am (Kd.V_below (by (with_reducible repeat (first | apply Kd.V_alloc | apply Kd.V_drewN | apply Kd.V_drew)); exact HO898.out) hb); have n3_ := am (Kd.V_below (by (with_reducible repeat (first | apply Kd.V_alloc | apply Kd.V_drewN | apply Kd.V_drew)); exact HO902.out) hb); have n4_ := am (Kd.V_lower (Kd.V_mono (ok' := fun k_ => k_ ≠ gb881 ∧ k_ ≠ gb883) ho0 (fun k_ hk_ => ⟨(Kd.freshB (g := gb881) (o := .cells #[.int .i64 0, .int .u64 0] 24 (0, 0)) (bq BK881) k_ hk_), (Kd.freshB (g := gb883) (o := .cells #[.bool x884000_4, .slice Ao30 x884001_4.length co30] 71 (0, 0)) (bq BK883) k_ hk_)⟩)) (below_size bz)); have n5_ := am (bb BK881 hb); have n6_ := am (bb BK883 hb); have n7_ := am (below_step bz hb); clear HO_884001 HO894 HO898 HO902 BK881 BK883 HB; have HO_884001 := n0_; have HO894 := n1_; have HO898 := n2_; have HO902 := n3_; have HO906 := n4_; have BK881 := n5_; have BK883 := n6_; have HB := n7_; clear n0_ n1_ n2_ n3_ n4_ n5_ n6_ n7_; (try clear hb); (try clear hb2); (try clear hk); (try clear hi); (try clear ho0)
                 obtain ⟨Ao38, co38, eo38⟩ := Kd.V_slice HO906.out
                 (first | subst eo38 | (injection eo38 with f1_ f2_ f3_; have f4_ := f1_.symm; have f5_ := f3_.symm; clear f1_ f2_ f3_; subst f4_; subst f5_))
                 refine hK.out _ _ ⟨(blk_cell BK883.out 0).trans rfl, (blk_cell BK883.out 1).trans rfl⟩ (fun hHeld => ?_)
                 clear hK K
                 refine norm_ (a' := ?_) ?_ ?_
                 rotate_left
                 · show Act.put _ (some 51) _ = _
                   simp only [Act.put, List.setIfInBounds_toArray, List.set_cons_zero, List.set_cons_succ, i64_w, i32_w]
                   rfl
                 refine last_ (i := 10) (N := none) #[true, true, true, true, true, true, true, true, true, true, true] rfl rfl (one_of HT_.out (by kernel_rfl)) (by decide) (fun K hK => ?_)
                 have hs37 : w36.cell? ⟨gb883, 0, none⟩ = some (.bool x884000_4) := (blk_cell BK883.out 0).trans rfl; have hfs37 := blk_frozen BK883.out 0; have hns37_0 := NB881_883.out; have hms37_0 := NB883_881.out; have hs39 : w36.cell? ⟨gb883, 1, none⟩ = some (.slice Ao30 x884001_4.length co30) := (blk_cell BK883.out 1).trans rfl; have hfs39 := blk_frozen BK883.out 1; have hns39_0 := NB881_883.out; have hms39_0 := NB883_881.out
                 refine skip_ (w1 := ?_) (by rfl) rfl ?_ ?_
                 rotate_left
                 · go_simp
                   rfl
                 refine hK.out _ _ ?_
                 clear hK K
                 refine done_ (done_of HT_.out (by kernel_rfl)) ?_
                 try go_wp2
                 go_roundg k4
                 case measure => have := HJ1.out; have := HJ6.out; have := HJ9.out; have := HK4.out; omega
                 case rel => exact ⟨(wrap64 (x7_4 + 1)), (t903), (t904), (.slice Ao38 t904.length co38), (by first | rfl | (simp; done) | (simp [*]; done)), H', ⟨by have := HJ1.out; have := HJ6.out; have := HJ9.out; have := HK4.out; omega⟩, ⟨by (with_reducible repeat (first | apply Kd.V_alloc | apply Kd.V_drewN | apply Kd.V_drew)); exact Kd.V_mono (Kd.V_far (p := ⟨gb883, 1, none⟩) (Kd.V_far (p := ⟨gb883, 0, none⟩) (Kd.V_mono HO906.out (fun k_ hk => (⟨hk, hk.2⟩ : _ ∧ k_ ≠ gb883))) (fun _ hk => hk.2) (.bool t903)) (fun _ hk => hk.2) (.slice Ao38 t904.length co38)) (fun _ hk => ⟨hk.1.1, hk.1.2⟩)⟩, ⟨by (with_reducible repeat (first | apply bA | apply bB | apply bC)); refine blk_far ?_ NB881_883.out _; (with_reducible repeat (first | apply bA | apply bB | apply bC)); refine blk_far ?_ NB881_883.out _; (with_reducible repeat (first | apply bA | apply bB | apply bC)); exact BK881.out⟩, ⟨by (with_reducible repeat (first | apply bA | apply bB | apply bC)); refine blk_put (cs := #[.bool t903, .slice Ao30 x884001_4.length co30]) ?_ 1 _ rfl; (with_reducible repeat (first | apply bA | apply bB | apply bC)); refine blk_put (cs := #[.bool x884000_4, .slice Ao30 x884001_4.length co30]) ?_ 0 _ rfl; (with_reducible repeat (first | apply bA | apply bB | apply bC)); exact BK883.out⟩, ⟨by repeat (first | (with_reducible first | exact HB.out | apply dA | apply dB | apply dC | refine dE ?_ ‹_›) | exact HB.out)⟩⟩
               · rw [if_neg c24] at H
                 exact absurd H (by simp)
             · rw [if_neg c21] at H
               have c21b0 : decide (x7_4 < (x5_6.size : Int)) = false := decide_eq_false c21; clear c21
               replace H := Option.bind_eq_some_iff.mp H
               obtain ⟨⟨t884, t885⟩, A400, H⟩ := H
               replace H : ((tumblerref01_over.f k4 t884 t885).bind fun bt888 => (some (bt888.1, bt888.2.1, bt888.2.2))) = some (r1, r2, r3) := H
               have A40 := Aside0.mk A400; clear A400
               replace H := Option.bind_eq_some_iff.mp H
               obtain ⟨⟨t888, t889, t890⟩, A410, H⟩ := H
               replace H : (some (t888, t889, t890)) = some (r1, r2, r3) := H
               have A41 := Aside0.mk A410; clear A410
               simp only [Option.some.injEq, Prod.mk.injEq] at H
               obtain ⟨rfl, rfl, rfl⟩ := H
               have hnb42 := NB883_881.out; have hnc42 := NB881_883.out; have hcz43_0 : wr.cell? ⟨gb883, 0, none⟩ = some (.bool x884000_4) := (blk_cell BK883.out 0).trans rfl; have hcz43_1 : wr.cell? ⟨gb883, 1, none⟩ = some (u884001) := (blk_cell BK883.out 1).trans rfl; have hfz43_0 := blk_frozen BK883.out 0; have hfz43_1 := blk_frozen BK883.out 1
               obtain ⟨Ao44, co44, eo44⟩ := Kd.V_slice HO_884001.out
               subst eo44
               go_wp2_with (first | ((with_reducible refine gate_callee (f := 81) rfl ?_); refine goesL_ (some 55) rfl rfl Tryd.func81 (by kernel_rfl) rfl #[.bool x4_1, .slice Ao44 x884001_4.length co44] rfl (by (try simp only [List.map_toArray, List.map_cons, List.map_nil]); first | done | rfl | (simp only [List.length_drop, List.length_take]; rfl)) ?_; (with_reducible refine (tumblerref01_make2.calls k4 x4_1 (fun k_ => (k_ ≠ gb881 ∧ k_ ≠ gb883)) _ _ x884001_4 t884 t885 _ ?side1 A40.out).mono ?_); (case side1 => exact HO_884001.out); rintro e w45 ⟨v886, rfl, ho0, hb⟩; refine ⟨_, rfl, ?_⟩; have n0_ := am (Kd.V_below (by (with_reducible repeat (first | apply Kd.V_alloc | apply Kd.V_drewN | apply Kd.V_drew)); exact HO_884001.out) hb); have n1_ := am (Kd.V_lower (Kd.V_mono (ok' := fun k_ => k_ ≠ gb881 ∧ k_ ≠ gb883) ho0 (fun k_ hk_ => ⟨Or.elim hk_ (fun hs_ => hs_.1) (fun hn_ => (Kd.freshB (g := gb881) (o := .cells #[.int .i64 0, .int .u64 0] 24 (0, 0)) (bq BK881) k_ hn_)), Or.elim hk_ (fun hs_ => hs_.2) (fun hn_ => (Kd.freshB (g := gb883) (o := .cells #[.bool x884000_4, .slice Ao44 x884001_4.length co44] 71 (0, 0)) (bq BK883) k_ hn_))⟩)) (below_size bz)); have n2_ := am (bb BK881 hb); have n3_ := am (bb BK883 hb); have n4_ := am (below_step bz hb); clear HO_884001; clear BK881; clear BK883; clear HB; have HO_884001 := n0_; have HO887 := n1_; have BK881 := n2_; have BK883 := n3_; have HB := n4_; clear n0_ n1_ n2_ n3_ n4_; (try clear hb); (try clear hb2); (try clear hk); (try clear hi); (try clear ho0); obtain ⟨Ao46, co46, eo46⟩ := Kd.V_slice HO887.out; subst eo46) | ((with_reducible refine gate_callee (f := 73) rfl ?_); refine goesL_ (some 56) rfl rfl Tryd.func73 (by kernel_rfl) rfl #[.agg #[.bool t884, .slice Ao46 t885.length co46]] rfl (by (try simp only [List.map_toArray, List.map_cons, List.map_nil]); first | done | rfl | (simp only [List.length_drop, List.length_take]; rfl)) ?_; (with_reducible refine (tumblerref01_over.calls k4 t884 _ _ t885 t888 t889 t890 _ ?side1 ?side2 A41.out).mono ?_); (case side1 => repeat (first | exact (Kd.V_reads' HO887.out).2.2 | (with_reducible refine Kd.C_alloc ?_ _) | (with_reducible refine Kd.C_drewN ?_ _) | (with_reducible refine Kd.C_drew ?_))); (case side2 => exact (Kd.V_reads' HO887.out).2.1); rintro e w47 ⟨rfl, hb⟩; refine ⟨_, rfl, ?_⟩; have n0_ := am (Kd.V_below (by (with_reducible repeat (first | apply Kd.V_alloc | apply Kd.V_drewN | apply Kd.V_drew)); exact HO_884001.out) hb); have n1_ := am (Kd.V_below (by (with_reducible repeat (first | apply Kd.V_alloc | apply Kd.V_drewN | apply Kd.V_drew)); exact HO887.out) hb); have n2_ := am (bb BK881 hb); have n3_ := am (bb BK883 hb); have n4_ := am (below_step bz hb); clear HO_884001; clear HO887; clear BK881; clear BK883; clear HB; have HO_884001 := n0_; have HO887 := n1_; have BK881 := n2_; have BK883 := n3_; have HB := n4_; clear n0_ n1_ n2_ n3_ n4_; (try clear hb); (try clear hb2); (try clear hk); (try clear hi); have hcz48_0 : w47.cell? ⟨gb881, 0, none⟩ = some (.int .i64 0) := (blk_cell BK881.out 0).trans rfl; have hcz48_1 : w47.cell? ⟨gb881, 1, none⟩ = some (.int .u64 0) := (blk_cell BK881.out 1).trans rfl; have hfz48_0 := blk_frozen BK881.out 0; have hfz48_1 := blk_frozen BK881.out 1))
               refine bodyPost_ret (results_ct rfl _ _ gb881 24 #[.int .i64 t888, .int .u64 t889] (0, 0) _ rfl (by (with_reducible repeat (first | apply bA | apply bB | apply bC)); refine blk_put (cs := #[.int .i64 t888, .int .u64 0]) ?_ 1 _ rfl; (with_reducible repeat (first | apply bA | apply bB | apply bC)); refine blk_put (cs := #[.int .i64 0, .int .u64 0]) ?_ 0 _ rfl; (with_reducible repeat (first | apply bA | apply bB | apply bC)); exact BK881.out) Tryd.underlying24 rfl (by kernel_rfl)) rfl ?_
               exact ⟨by first | rfl | (simp [errW_none, errW_some] <;> rfl) | (simp [*, errW_none, errW_some] <;> rfl), by repeat (first | (with_reducible first | exact HB.out | apply dA | apply dB | apply dC | refine dE ?_ ‹_›) | exact HB.out)⟩

end Go.Proofs.YtcfhmbhlibhlnaaDoor.P
