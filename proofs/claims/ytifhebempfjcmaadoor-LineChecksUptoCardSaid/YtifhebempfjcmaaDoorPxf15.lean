-- Printed by this session's own pp.py (wip/tool) out of the translation.
import Derived.Test.YtifhebempfjcmaaDoorPx0
import Derived.Test.YtifhebempfjcmaaDoorPxf24
namespace Go.Proofs.YtifhebempfjcmaaDoor.P
open Go.RowKit Go.Proofs.YtifhebempfjcmaaDoorW.PrintWords Go.Proofs.YtifhebempfjcmaaDoorW.PrintLast Go.Proofs.YtifhebempfjcmaaDoorW.PrintMore Go.Proofs.YtifhebempfjcmaaDoor.Mine
attribute [local go_sem] max2_int min2_int max_two min_two max_three min_three max_four min_four   -- for this text's walks alone
set_option linter.unusedVariables false
set_option linter.unusedSimpArgs false

/-! ### tumblerref04_fits: function 15 -/
def tumblerref04_fits.j0 : Nat → Bool → ByteArray → Int → Int → Bool → ByteArray → Int → Bool → Int → Option (Bool)
 | 0, _, _, _, _, _, _, _, _, _ => none
 | k + 1, x19, x146000, x146001, x146002, x146003, x146004, x146005, x146006, x146007 => if x19 = true then (some false) else (if x146001 = 4 then (if x146002 = 0 then ((tumblerref04_Member.f k x146004).bind fun t146 => (some t146)) else (some false)) else (if x146001 = 3 then (if x146002 < 0 then (some false) else (if x146002 > 100000000000000 then (some false) else (if x146001 = 2 then (if x146003 = true then (some (x146004.toList == ([] : List UInt8))) else (some (x146004.toList == ([] : List UInt8)))) else (some (x146004.toList == ([] : List UInt8)))))) else (if x146001 = 2 then (if x146003 = true then (some (x146004.toList == ([] : List UInt8))) else (if x146002 < 0 then (some false) else (some (x146004.toList == ([] : List UInt8))))) else (some (x146004.toList == ([] : List UInt8))))))
def tumblerref04_fits.f (k : Nat) (a0_0 : ByteArray) (a0_1 : Int) (a0_2 : Int) (a0_3 : Bool) (a0_4 : ByteArray) (a0_5 : Int) (a0_6 : Bool) (a0_7 : Int) : Option (Bool) := if a0_2 > 1000000000000000 then (tumblerref04_fits.j0 k true a0_0 a0_1 a0_2 a0_3 a0_4 a0_5 a0_6 a0_7) else (if a0_2 < (-1000000000000000) then (tumblerref04_fits.j0 k true a0_0 a0_1 a0_2 a0_3 a0_4 a0_5 a0_6 a0_7) else (if a0_3 = true then (tumblerref04_fits.j0 k (a0_1 != 2) a0_0 a0_1 a0_2 a0_3 a0_4 a0_5 a0_6 a0_7) else (tumblerref04_fits.j0 k false a0_0 a0_1 a0_2 a0_3 a0_4 a0_5 a0_6 a0_7)))
theorem tumblerref04_fits.mono_l : ∀ k, (∀ y0 y1 y2 y3 y4 y5 y6 y7 y8, LeO (tumblerref04_fits.j0 k y0 y1 y2 y3 y4 y5 y6 y7 y8) (tumblerref04_fits.j0 (k + 1) y0 y1 y2 y3 y4 y5 y6 y7 y8))
 | 0 => fun _ _ _ _ _ _ _ _ _ r h => by simp [tumblerref04_fits.j0] at h
 | k + 1 => by
  have ih0 := tumblerref04_fits.mono_l k
  · intro y0 y1 y2 y3 y4 y5 y6 y7 y8
    unfold tumblerref04_fits.j0
    repeat' first
    | (with_reducible exact ih0 _ _ _ _ _ _ _ _ _)
    | (with_reducible exact tumblerref04_Member.mono _ _)
    | (with_reducible exact LeO.refl _)
    | (with_reducible exact LeO.none _)
    | (with_reducible refine LeO.ite ?_ ?_)
    | (with_reducible refine LeO.bind ?_ (fun _ => ?_))
    | exact ih0 _ _ _ _ _ _ _ _ _
    | exact tumblerref04_Member.mono _ _
    | exact LeO.none _
    | refine LeO.ite ?_ ?_
    | refine LeO.bind ?_ (fun _ => ?_)
theorem tumblerref04_fits.mono : ∀ a0 a1 a2 a3 a4 a5 a6 a7 k, LeO (tumblerref04_fits.f k a0 a1 a2 a3 a4 a5 a6 a7) (tumblerref04_fits.f (k + 1) a0 a1 a2 a3 a4 a5 a6 a7) := by
 intro a0 a1 a2 a3 a4 a5 a6 a7 k; have ih0 := tumblerref04_fits.mono_l k
 unfold tumblerref04_fits.f
 repeat' first
  | (with_reducible exact ih0 _ _ _ _ _ _ _ _ _)
  | (with_reducible exact tumblerref04_Member.mono _ _)
  | (with_reducible exact LeO.refl _)
  | (with_reducible exact LeO.none _)
  | (with_reducible refine LeO.ite ?_ ?_)
  | (with_reducible refine LeO.bind ?_ (fun _ => ?_))
  | exact ih0 _ _ _ _ _ _ _ _ _
  | exact tumblerref04_Member.mono _ _
  | exact LeO.none _
  | refine LeO.ite ?_ ?_
  | refine LeO.bind ?_ (fun _ => ?_)
set_option maxHeartbeats 8000000 in
set_option maxRecDepth 100000 in
theorem tumblerref04_fits.calls (k : Nat) (a0_0 : ByteArray) (a0_1 : Int) (a0_2 : Int) (a0_3 : Bool) (a0_4 : ByteArray) (a0_5 : Int) (a0_6 : Bool) (a0_7 : Int) (r : Bool) (w : World) (h : tumblerref04_fits.f k a0_0 a0_1 a0_2 a0_3 a0_4 a0_5 a0_6 a0_7 = some r) :
 Calls Tryd.prog 15 #[.agg #[.string a0_0, .int .i64 a0_1, .int .i64 a0_2, .bool a0_3, .string a0_4, .int .i64 a0_5, .bool a0_6, .int .i64 a0_7]] w fun e w' => e = .returned (.bool r) ∧ Below w.heap.size w w' := by
 have hu31 := Tryd.underlying31; have HB := am (Below.refl w.heap.size w); have H : (if a0_2 > 1000000000000000 then (tumblerref04_fits.j0 k true a0_0 a0_1 a0_2 a0_3 a0_4 a0_5 a0_6 a0_7) else (if a0_2 < (-1000000000000000) then (tumblerref04_fits.j0 k true a0_0 a0_1 a0_2 a0_3 a0_4 a0_5 a0_6 a0_7) else (if a0_3 = true then (tumblerref04_fits.j0 k (a0_1 != 2) a0_0 a0_1 a0_2 a0_3 a0_4 a0_5 a0_6 a0_7) else (tumblerref04_fits.j0 k false a0_0 a0_1 a0_2 a0_3 a0_4 a0_5 a0_6 a0_7)))) = some r := h; clear h; have HC2 := Aside0.mk H; clear H
 go_enter Tryd.func15, Tryd.ntmps15
 go_upto_region 1 with (first | ((with_reducible refine gate_dst (N := 1) rfl ?_); refine box_event ?hg (N := 1) ?hd (cs := #[.string a0_0, .int .i64 a0_1, .int .i64 a0_2, .bool a0_3, .string a0_4, .int .i64 a0_5, .bool a0_6, .int .i64 a0_7]) (t := 31) ?hr ?_; (case hd => rfl); (case hg => rfl); (case hr => first | (go_simp; done) | (go_simp; rfl)); intro gb145 hg w3 hbox hb; have n0_ := am (below_step bz hb); have n1_ := am (hbox); have n2_ := am ((by rw [hg]; exact (below_size bz) : w.heap.size ≤ gb145)); have n3_ := am ((by rw [hg]; exact (below_size bz) : w.heap.size ≤ gb145)); clear HB; have HB := n0_; have BK145 := n1_; have GW145 := n2_; have GE145 := n3_; clear n0_ n1_ n2_ n3_; clear hb hbox hg))
 (try simp only [Act.put, List.setIfInBounds_toArray, List.set_cons_zero, List.set_cons_succ])
 go_cut [19] (fun v19 wc => ∃ (kq : Nat) (x19_1 : Bool), v19 = .bool x19_1 ∧ Aside0 (tumblerref04_fits.j0 kq x19_1 a0_0 a0_1 a0_2 a0_3 a0_4 a0_5 a0_6 a0_7 = some r) ∧ Aside0 (kq ≤ k) ∧ Aside0 (wc.heap[gb145]? = some (.cells #[.string a0_0, .int .i64 a0_1, .int .i64 a0_2, .bool a0_3, .string a0_4, .int .i64 a0_5, .bool a0_6, .int .i64 a0_7] 31 (0, 0))) ∧ Aside0 (Below w.heap.size w wc))
 case first =>
  have H := HC2.out; clear HC2
  by_cases c4 : a0_2 > 1000000000000000
  · rw [if_pos c4] at H
    have c4b0 : decide (1000000000000000 < a0_2) = true := decide_eq_true c4; clear c4
    (first | rw [c4b0] | (simp only [i64_w, i32_w]; rw [c4b0]) | skip)
    have H' := Aside0.mk H; clear H; have hcz5_0 : w3.cell? ⟨gb145, 0, none⟩ = some (.string a0_0) := (blk_cell BK145.out 0).trans rfl; have hcz5_1 : w3.cell? ⟨gb145, 1, none⟩ = some (.int .i64 a0_1) := (blk_cell BK145.out 1).trans rfl; have hcz5_2 : w3.cell? ⟨gb145, 2, none⟩ = some (.int .i64 a0_2) := (blk_cell BK145.out 2).trans rfl; have hcz5_3 : w3.cell? ⟨gb145, 3, none⟩ = some (.bool a0_3) := (blk_cell BK145.out 3).trans rfl; have hcz5_4 : w3.cell? ⟨gb145, 4, none⟩ = some (.string a0_4) := (blk_cell BK145.out 4).trans rfl; have hcz5_5 : w3.cell? ⟨gb145, 5, none⟩ = some (.int .i64 a0_5) := (blk_cell BK145.out 5).trans rfl; have hcz5_6 : w3.cell? ⟨gb145, 6, none⟩ = some (.bool a0_6) := (blk_cell BK145.out 6).trans rfl; have hcz5_7 : w3.cell? ⟨gb145, 7, none⟩ = some (.int .i64 a0_7) := (blk_cell BK145.out 7).trans rfl; have hfz5_0 := blk_frozen BK145.out 0; have hfz5_1 := blk_frozen BK145.out 1; have hfz5_2 := blk_frozen BK145.out 2; have hfz5_3 := blk_frozen BK145.out 3; have hfz5_4 := blk_frozen BK145.out 4; have hfz5_5 := blk_frozen BK145.out 5; have hfz5_6 := blk_frozen BK145.out 6; have hfz5_7 := blk_frozen BK145.out 7
    go_wp2
    go_meet
    case rel => exact ⟨_, (true), (by first | rfl | (simp; done) | (simp [*]; done)), H', ⟨by first | omega | exact Nat.le_refl _⟩, ⟨by (with_reducible repeat (first | apply bA | apply bB | apply bC)); exact BK145.out⟩, ⟨by repeat (first | (with_reducible first | exact HB.out | apply dA | apply dB | apply dC | refine dE ?_ ‹_›) | exact HB.out)⟩⟩
  · rw [if_neg c4] at H
    have c4b0 : decide (1000000000000000 < a0_2) = false := decide_eq_false c4; clear c4
    (first | rw [c4b0] | (simp only [i64_w, i32_w]; rw [c4b0]) | skip)
    by_cases c6 : a0_2 < (-1000000000000000)
    · rw [if_pos c6] at H
      have c6b0 : decide (a0_2 < (-1000000000000000)) = true := decide_eq_true c6; clear c6; have H' := Aside0.mk H; clear H; have hcz7_0 : w3.cell? ⟨gb145, 0, none⟩ = some (.string a0_0) := (blk_cell BK145.out 0).trans rfl; have hcz7_1 : w3.cell? ⟨gb145, 1, none⟩ = some (.int .i64 a0_1) := (blk_cell BK145.out 1).trans rfl; have hcz7_2 : w3.cell? ⟨gb145, 2, none⟩ = some (.int .i64 a0_2) := (blk_cell BK145.out 2).trans rfl; have hcz7_3 : w3.cell? ⟨gb145, 3, none⟩ = some (.bool a0_3) := (blk_cell BK145.out 3).trans rfl; have hcz7_4 : w3.cell? ⟨gb145, 4, none⟩ = some (.string a0_4) := (blk_cell BK145.out 4).trans rfl; have hcz7_5 : w3.cell? ⟨gb145, 5, none⟩ = some (.int .i64 a0_5) := (blk_cell BK145.out 5).trans rfl; have hcz7_6 : w3.cell? ⟨gb145, 6, none⟩ = some (.bool a0_6) := (blk_cell BK145.out 6).trans rfl; have hcz7_7 : w3.cell? ⟨gb145, 7, none⟩ = some (.int .i64 a0_7) := (blk_cell BK145.out 7).trans rfl; have hfz7_0 := blk_frozen BK145.out 0; have hfz7_1 := blk_frozen BK145.out 1; have hfz7_2 := blk_frozen BK145.out 2; have hfz7_3 := blk_frozen BK145.out 3; have hfz7_4 := blk_frozen BK145.out 4; have hfz7_5 := blk_frozen BK145.out 5; have hfz7_6 := blk_frozen BK145.out 6; have hfz7_7 := blk_frozen BK145.out 7
      go_wp2
      go_meet
      case rel => exact ⟨_, (true), (by first | rfl | (simp; done) | (simp [*]; done)), H', ⟨by first | omega | exact Nat.le_refl _⟩, ⟨by (with_reducible repeat (first | apply bA | apply bB | apply bC)); exact BK145.out⟩, ⟨by repeat (first | (with_reducible first | exact HB.out | apply dA | apply dB | apply dC | refine dE ?_ ‹_›) | exact HB.out)⟩⟩
    · rw [if_neg c6] at H
      have c6b0 : decide (a0_2 < (-1000000000000000)) = false := decide_eq_false c6; clear c6
      by_cases c8 : a0_3 = true
      · subst c8
        have H1 : (tumblerref04_fits.j0 k (a0_1 != 2) a0_0 a0_1 a0_2 true a0_4 a0_5 a0_6 a0_7) = some r := by rw [if_pos rfl] at H; exact H
        clear H; have H := H1; clear H1; have H' := Aside0.mk H; clear H; have hcz9_0 : w3.cell? ⟨gb145, 0, none⟩ = some (.string a0_0) := (blk_cell BK145.out 0).trans rfl; have hcz9_1 : w3.cell? ⟨gb145, 1, none⟩ = some (.int .i64 a0_1) := (blk_cell BK145.out 1).trans rfl; have hcz9_2 : w3.cell? ⟨gb145, 2, none⟩ = some (.int .i64 a0_2) := (blk_cell BK145.out 2).trans rfl; have hcz9_3 : w3.cell? ⟨gb145, 3, none⟩ = some (.bool true) := (blk_cell BK145.out 3).trans rfl; have hcz9_4 : w3.cell? ⟨gb145, 4, none⟩ = some (.string a0_4) := (blk_cell BK145.out 4).trans rfl; have hcz9_5 : w3.cell? ⟨gb145, 5, none⟩ = some (.int .i64 a0_5) := (blk_cell BK145.out 5).trans rfl; have hcz9_6 : w3.cell? ⟨gb145, 6, none⟩ = some (.bool a0_6) := (blk_cell BK145.out 6).trans rfl; have hcz9_7 : w3.cell? ⟨gb145, 7, none⟩ = some (.int .i64 a0_7) := (blk_cell BK145.out 7).trans rfl; have hfz9_0 := blk_frozen BK145.out 0; have hfz9_1 := blk_frozen BK145.out 1; have hfz9_2 := blk_frozen BK145.out 2; have hfz9_3 := blk_frozen BK145.out 3; have hfz9_4 := blk_frozen BK145.out 4; have hfz9_5 := blk_frozen BK145.out 5; have hfz9_6 := blk_frozen BK145.out 6; have hfz9_7 := blk_frozen BK145.out 7
        go_wp2
        go_meet
        case rel => exact ⟨_, ((a0_1 != 2)), (by first | rfl | (simp; done) | (simp [*]; done)), H', ⟨by first | omega | exact Nat.le_refl _⟩, ⟨by (with_reducible repeat (first | apply bA | apply bB | apply bC)); exact BK145.out⟩, ⟨by repeat (first | (with_reducible first | exact HB.out | apply dA | apply dB | apply dC | refine dE ?_ ‹_›) | exact HB.out)⟩⟩
      · replace c8 := Bool.eq_false_iff.mpr c8
        subst c8
        have H1 : (tumblerref04_fits.j0 k false a0_0 a0_1 a0_2 false a0_4 a0_5 a0_6 a0_7) = some r := by rw [if_neg (show ¬ (false = true) by decide)] at H; exact H
        clear H; have H := H1; clear H1; have H' := Aside0.mk H; clear H; have hcz10_0 : w3.cell? ⟨gb145, 0, none⟩ = some (.string a0_0) := (blk_cell BK145.out 0).trans rfl; have hcz10_1 : w3.cell? ⟨gb145, 1, none⟩ = some (.int .i64 a0_1) := (blk_cell BK145.out 1).trans rfl; have hcz10_2 : w3.cell? ⟨gb145, 2, none⟩ = some (.int .i64 a0_2) := (blk_cell BK145.out 2).trans rfl; have hcz10_3 : w3.cell? ⟨gb145, 3, none⟩ = some (.bool false) := (blk_cell BK145.out 3).trans rfl; have hcz10_4 : w3.cell? ⟨gb145, 4, none⟩ = some (.string a0_4) := (blk_cell BK145.out 4).trans rfl; have hcz10_5 : w3.cell? ⟨gb145, 5, none⟩ = some (.int .i64 a0_5) := (blk_cell BK145.out 5).trans rfl; have hcz10_6 : w3.cell? ⟨gb145, 6, none⟩ = some (.bool a0_6) := (blk_cell BK145.out 6).trans rfl; have hcz10_7 : w3.cell? ⟨gb145, 7, none⟩ = some (.int .i64 a0_7) := (blk_cell BK145.out 7).trans rfl; have hfz10_0 := blk_frozen BK145.out 0; have hfz10_1 := blk_frozen BK145.out 1; have hfz10_2 := blk_frozen BK145.out 2; have hfz10_3 := blk_frozen BK145.out 3; have hfz10_4 := blk_frozen BK145.out 4; have hfz10_5 := blk_frozen BK145.out 5; have hfz10_6 := blk_frozen BK145.out 6; have hfz10_7 := blk_frozen BK145.out 7
        go_wp2
        go_meet
        case rel => exact ⟨_, (false), (by first | rfl | (simp; done) | (simp [*]; done)), H', ⟨by first | omega | exact Nat.le_refl _⟩, ⟨by (with_reducible repeat (first | apply bA | apply bB | apply bC)); exact BK145.out⟩, ⟨by repeat (first | (with_reducible first | exact HB.out | apply dA | apply dB | apply dC | refine dE ?_ ‹_›) | exact HB.out)⟩⟩
 case rest =>
  clear HC2
  try clear c1
  try clear p2
  try clear c4
  try clear c4b0
  try clear c6
  try clear c6b0
  try clear c8
  try clear hcz10_0
  try clear hcz10_1
  try clear hcz10_2
  try clear hcz10_3
  try clear hcz10_4
  try clear hcz10_5
  try clear hcz10_6
  try clear hcz10_7
  try clear hcz5_0
  try clear hcz5_1
  try clear hcz5_2
  try clear hcz5_3
  try clear hcz5_4
  try clear hcz5_5
  try clear hcz5_6
  try clear hcz5_7
  try clear hcz7_0
  try clear hcz7_1
  try clear hcz7_2
  try clear hcz7_3
  try clear hcz7_4
  try clear hcz7_5
  try clear hcz7_6
  try clear hcz7_7
  try clear hcz9_0
  try clear hcz9_1
  try clear hcz9_2
  try clear hcz9_3
  try clear hcz9_4
  try clear hcz9_5
  try clear hcz9_6
  try clear hcz9_7
  try clear hfz10_0
  try clear hfz10_1
  try clear hfz10_2
  try clear hfz10_3
  try clear hfz10_4
  try clear hfz10_5
  try clear hfz10_6
  try clear hfz10_7
  try clear hfz5_0
  try clear hfz5_1
  try clear hfz5_2
  try clear hfz5_3
  try clear hfz5_4
  try clear hfz5_5
  try clear hfz5_6
  try clear hfz5_7
  try clear hfz7_0
  try clear hfz7_1
  try clear hfz7_2
  try clear hfz7_3
  try clear hfz7_4
  try clear hfz7_5
  try clear hfz7_6
  try clear hfz7_7
  try clear hfz9_0
  try clear hfz9_1
  try clear hfz9_2
  try clear hfz9_3
  try clear hfz9_4
  try clear hfz9_5
  try clear hfz9_6
  try clear hfz9_7
  obtain ⟨kq, x19_1, rfl, HA, HJ1, BK145, HB⟩ := hcut
  cases kq with
  | zero => exact absurd HA.out (by simp [tumblerref04_fits.j0])
  | succ kj1 =>
   have H := HA.out; clear HA
   simp only [tumblerref04_fits.j0] at H
   by_cases c11 : x19_1 = true
   · subst c11
     have H1 : (some false) = some r := by rw [if_pos rfl] at H; exact H
     clear H; have H := H1; clear H1
     obtain rfl := Option.some.inj H
     go_wp2
     go_ret
     exact ⟨by first | rfl | (simp [errW_none, errW_some] <;> rfl) | (simp [*, errW_none, errW_some] <;> rfl), by repeat (first | (with_reducible first | exact HB.out | apply dA | apply dB | apply dC | refine dE ?_ ‹_›) | exact HB.out)⟩
   · replace c11 := Bool.eq_false_iff.mpr c11
     subst c11
     have H1 : (if a0_1 = 4 then (if a0_2 = 0 then ((tumblerref04_Member.f kj1 a0_4).bind fun t146 => (some t146)) else (some false)) else (if a0_1 = 3 then (if a0_2 < 0 then (some false) else (if a0_2 > 100000000000000 then (some false) else (if a0_1 = 2 then (if a0_3 = true then (some (a0_4.toList == ([] : List UInt8))) else (some (a0_4.toList == ([] : List UInt8)))) else (some (a0_4.toList == ([] : List UInt8)))))) else (if a0_1 = 2 then (if a0_3 = true then (some (a0_4.toList == ([] : List UInt8))) else (if a0_2 < 0 then (some false) else (some (a0_4.toList == ([] : List UInt8))))) else (some (a0_4.toList == ([] : List UInt8)))))) = some r := by rw [if_neg (show ¬ (false = true) by decide)] at H; exact H
     clear H; have H := H1; clear H1
     by_cases c12 : a0_1 = 4
     · rw [if_pos c12] at H
       have c12b0 : (a0_1 == 4) = true := beq_iff_eq.mpr c12; have c12b1 : (a0_1 != 4) = false := bne_eq_false_iff_eq.mpr c12; clear c12
       by_cases c13 : a0_2 = 0
       · rw [if_pos c13] at H
         have c13b0 : (a0_2 == 0) = true := beq_iff_eq.mpr c13; have c13b1 : (a0_2 != 0) = false := bne_eq_false_iff_eq.mpr c13; clear c13
         replace H := Option.bind_eq_some_iff.mp H
         obtain ⟨t146, A140, H⟩ := H
         replace H : (some t146) = some r := H
         have A14 := Aside0.mk A140; clear A140
         obtain rfl := Option.some.inj H
         have hcz15_0 : wc.cell? ⟨gb145, 0, none⟩ = some (.string a0_0) := (blk_cell BK145.out 0).trans rfl; have hcz15_1 : wc.cell? ⟨gb145, 1, none⟩ = some (.int .i64 a0_1) := (blk_cell BK145.out 1).trans rfl; have hcz15_2 : wc.cell? ⟨gb145, 2, none⟩ = some (.int .i64 a0_2) := (blk_cell BK145.out 2).trans rfl; have hcz15_3 : wc.cell? ⟨gb145, 3, none⟩ = some (.bool a0_3) := (blk_cell BK145.out 3).trans rfl; have hcz15_4 : wc.cell? ⟨gb145, 4, none⟩ = some (.string a0_4) := (blk_cell BK145.out 4).trans rfl; have hcz15_5 : wc.cell? ⟨gb145, 5, none⟩ = some (.int .i64 a0_5) := (blk_cell BK145.out 5).trans rfl; have hcz15_6 : wc.cell? ⟨gb145, 6, none⟩ = some (.bool a0_6) := (blk_cell BK145.out 6).trans rfl; have hcz15_7 : wc.cell? ⟨gb145, 7, none⟩ = some (.int .i64 a0_7) := (blk_cell BK145.out 7).trans rfl; have hfz15_0 := blk_frozen BK145.out 0; have hfz15_1 := blk_frozen BK145.out 1; have hfz15_2 := blk_frozen BK145.out 2; have hfz15_3 := blk_frozen BK145.out 3; have hfz15_4 := blk_frozen BK145.out 4; have hfz15_5 := blk_frozen BK145.out 5; have hfz15_6 := blk_frozen BK145.out 6; have hfz15_7 := blk_frozen BK145.out 7
         go_wp2_with (first | (go_at_call 24; (with_reducible refine (tumblerref04_Member.calls kj1 a0_4 t146 _ A14.out).mono ?_); rintro e w' ⟨rfl, ⟨nd, rfl⟩⟩))
         go_ret
         exact ⟨by first | rfl | (simp [errW_none, errW_some] <;> rfl) | (simp [*, errW_none, errW_some] <;> rfl), by repeat (first | (with_reducible first | exact HB.out | apply dA | apply dB | apply dC | refine dE ?_ ‹_›) | exact HB.out)⟩
       · rw [if_neg c13] at H
         have c13b0 : (a0_2 == 0) = false := beq_eq_false_iff_ne.mpr c13; have c13b1 : (a0_2 != 0) = true := bne_iff_ne.mpr c13
         obtain rfl := Option.some.inj H
         have hcz16_0 : wc.cell? ⟨gb145, 0, none⟩ = some (.string a0_0) := (blk_cell BK145.out 0).trans rfl; have hcz16_1 : wc.cell? ⟨gb145, 1, none⟩ = some (.int .i64 a0_1) := (blk_cell BK145.out 1).trans rfl; have hcz16_2 : wc.cell? ⟨gb145, 2, none⟩ = some (.int .i64 a0_2) := (blk_cell BK145.out 2).trans rfl; have hcz16_3 : wc.cell? ⟨gb145, 3, none⟩ = some (.bool a0_3) := (blk_cell BK145.out 3).trans rfl; have hcz16_4 : wc.cell? ⟨gb145, 4, none⟩ = some (.string a0_4) := (blk_cell BK145.out 4).trans rfl; have hcz16_5 : wc.cell? ⟨gb145, 5, none⟩ = some (.int .i64 a0_5) := (blk_cell BK145.out 5).trans rfl; have hcz16_6 : wc.cell? ⟨gb145, 6, none⟩ = some (.bool a0_6) := (blk_cell BK145.out 6).trans rfl; have hcz16_7 : wc.cell? ⟨gb145, 7, none⟩ = some (.int .i64 a0_7) := (blk_cell BK145.out 7).trans rfl; have hfz16_0 := blk_frozen BK145.out 0; have hfz16_1 := blk_frozen BK145.out 1; have hfz16_2 := blk_frozen BK145.out 2; have hfz16_3 := blk_frozen BK145.out 3; have hfz16_4 := blk_frozen BK145.out 4; have hfz16_5 := blk_frozen BK145.out 5; have hfz16_6 := blk_frozen BK145.out 6; have hfz16_7 := blk_frozen BK145.out 7
         go_wp2
         go_ret
         exact ⟨by first | rfl | (simp [errW_none, errW_some] <;> rfl) | (simp [*, errW_none, errW_some] <;> rfl), by repeat (first | (with_reducible first | exact HB.out | apply dA | apply dB | apply dC | refine dE ?_ ‹_›) | exact HB.out)⟩
     · rw [if_neg c12] at H
       have c12b0 : (a0_1 == 4) = false := beq_eq_false_iff_ne.mpr c12; have c12b1 : (a0_1 != 4) = true := bne_iff_ne.mpr c12
       by_cases c17 : a0_1 = 3
       · rw [if_pos c17] at H
         have c17b0 : (a0_1 == 3) = true := beq_iff_eq.mpr c17; have c17b1 : (a0_1 != 3) = false := bne_eq_false_iff_eq.mpr c17; clear c17
         by_cases c18 : a0_2 < 0
         · rw [if_pos c18] at H
           have c18b0 : decide (a0_2 < 0) = true := decide_eq_true c18; clear c18
           obtain rfl := Option.some.inj H
           have hcz19_0 : wc.cell? ⟨gb145, 0, none⟩ = some (.string a0_0) := (blk_cell BK145.out 0).trans rfl; have hcz19_1 : wc.cell? ⟨gb145, 1, none⟩ = some (.int .i64 a0_1) := (blk_cell BK145.out 1).trans rfl; have hcz19_2 : wc.cell? ⟨gb145, 2, none⟩ = some (.int .i64 a0_2) := (blk_cell BK145.out 2).trans rfl; have hcz19_3 : wc.cell? ⟨gb145, 3, none⟩ = some (.bool a0_3) := (blk_cell BK145.out 3).trans rfl; have hcz19_4 : wc.cell? ⟨gb145, 4, none⟩ = some (.string a0_4) := (blk_cell BK145.out 4).trans rfl; have hcz19_5 : wc.cell? ⟨gb145, 5, none⟩ = some (.int .i64 a0_5) := (blk_cell BK145.out 5).trans rfl; have hcz19_6 : wc.cell? ⟨gb145, 6, none⟩ = some (.bool a0_6) := (blk_cell BK145.out 6).trans rfl; have hcz19_7 : wc.cell? ⟨gb145, 7, none⟩ = some (.int .i64 a0_7) := (blk_cell BK145.out 7).trans rfl; have hfz19_0 := blk_frozen BK145.out 0; have hfz19_1 := blk_frozen BK145.out 1; have hfz19_2 := blk_frozen BK145.out 2; have hfz19_3 := blk_frozen BK145.out 3; have hfz19_4 := blk_frozen BK145.out 4; have hfz19_5 := blk_frozen BK145.out 5; have hfz19_6 := blk_frozen BK145.out 6; have hfz19_7 := blk_frozen BK145.out 7
           go_wp2
           go_ret
           exact ⟨by first | rfl | (simp [errW_none, errW_some] <;> rfl) | (simp [*, errW_none, errW_some] <;> rfl), by repeat (first | (with_reducible first | exact HB.out | apply dA | apply dB | apply dC | refine dE ?_ ‹_›) | exact HB.out)⟩
         · rw [if_neg c18] at H
           have c18b0 : decide (a0_2 < 0) = false := decide_eq_false c18; clear c18
           by_cases c20 : a0_2 > 100000000000000
           · rw [if_pos c20] at H
             have c20b0 : decide (100000000000000 < a0_2) = true := decide_eq_true c20; clear c20
             obtain rfl := Option.some.inj H
             have hcz21_0 : wc.cell? ⟨gb145, 0, none⟩ = some (.string a0_0) := (blk_cell BK145.out 0).trans rfl; have hcz21_1 : wc.cell? ⟨gb145, 1, none⟩ = some (.int .i64 a0_1) := (blk_cell BK145.out 1).trans rfl; have hcz21_2 : wc.cell? ⟨gb145, 2, none⟩ = some (.int .i64 a0_2) := (blk_cell BK145.out 2).trans rfl; have hcz21_3 : wc.cell? ⟨gb145, 3, none⟩ = some (.bool a0_3) := (blk_cell BK145.out 3).trans rfl; have hcz21_4 : wc.cell? ⟨gb145, 4, none⟩ = some (.string a0_4) := (blk_cell BK145.out 4).trans rfl; have hcz21_5 : wc.cell? ⟨gb145, 5, none⟩ = some (.int .i64 a0_5) := (blk_cell BK145.out 5).trans rfl; have hcz21_6 : wc.cell? ⟨gb145, 6, none⟩ = some (.bool a0_6) := (blk_cell BK145.out 6).trans rfl; have hcz21_7 : wc.cell? ⟨gb145, 7, none⟩ = some (.int .i64 a0_7) := (blk_cell BK145.out 7).trans rfl; have hfz21_0 := blk_frozen BK145.out 0; have hfz21_1 := blk_frozen BK145.out 1; have hfz21_2 := blk_frozen BK145.out 2; have hfz21_3 := blk_frozen BK145.out 3; have hfz21_4 := blk_frozen BK145.out 4; have hfz21_5 := blk_frozen BK145.out 5; have hfz21_6 := blk_frozen BK145.out 6; have hfz21_7 := blk_frozen BK145.out 7
             go_wp2
             go_ret
             exact ⟨by first | rfl | (simp [errW_none, errW_some] <;> rfl) | (simp [*, errW_none, errW_some] <;> rfl), by repeat (first | (with_reducible first | exact HB.out | apply dA | apply dB | apply dC | refine dE ?_ ‹_›) | exact HB.out)⟩
           · rw [if_neg c20] at H
             have c20b0 : decide (100000000000000 < a0_2) = false := decide_eq_false c20; clear c20
             by_cases c22 : a0_1 = 2
             · rw [if_pos c22] at H
               have c22b0 : (a0_1 == 2) = true := beq_iff_eq.mpr c22; have c22b1 : (a0_1 != 2) = false := bne_eq_false_iff_eq.mpr c22; clear c22
               by_cases c23 : a0_3 = true
               · subst c23
                 have H1 : (some (a0_4.toList == ([] : List UInt8))) = some r := by rw [if_pos rfl] at H; exact H
                 clear H; have H := H1; clear H1
                 obtain rfl := Option.some.inj H
                 have hcz24_0 : wc.cell? ⟨gb145, 0, none⟩ = some (.string a0_0) := (blk_cell BK145.out 0).trans rfl; have hcz24_1 : wc.cell? ⟨gb145, 1, none⟩ = some (.int .i64 a0_1) := (blk_cell BK145.out 1).trans rfl; have hcz24_2 : wc.cell? ⟨gb145, 2, none⟩ = some (.int .i64 a0_2) := (blk_cell BK145.out 2).trans rfl; have hcz24_3 : wc.cell? ⟨gb145, 3, none⟩ = some (.bool true) := (blk_cell BK145.out 3).trans rfl; have hcz24_4 : wc.cell? ⟨gb145, 4, none⟩ = some (.string a0_4) := (blk_cell BK145.out 4).trans rfl; have hcz24_5 : wc.cell? ⟨gb145, 5, none⟩ = some (.int .i64 a0_5) := (blk_cell BK145.out 5).trans rfl; have hcz24_6 : wc.cell? ⟨gb145, 6, none⟩ = some (.bool a0_6) := (blk_cell BK145.out 6).trans rfl; have hcz24_7 : wc.cell? ⟨gb145, 7, none⟩ = some (.int .i64 a0_7) := (blk_cell BK145.out 7).trans rfl; have hfz24_0 := blk_frozen BK145.out 0; have hfz24_1 := blk_frozen BK145.out 1; have hfz24_2 := blk_frozen BK145.out 2; have hfz24_3 := blk_frozen BK145.out 3; have hfz24_4 := blk_frozen BK145.out 4; have hfz24_5 := blk_frozen BK145.out 5; have hfz24_6 := blk_frozen BK145.out 6; have hfz24_7 := blk_frozen BK145.out 7
                 go_wp2
                 go_ret
                 exact ⟨by first | rfl | (simp [errW_none, errW_some] <;> rfl) | (simp [*, errW_none, errW_some] <;> rfl), by repeat (first | (with_reducible first | exact HB.out | apply dA | apply dB | apply dC | refine dE ?_ ‹_›) | exact HB.out)⟩
               · replace c23 := Bool.eq_false_iff.mpr c23
                 subst c23
                 have H1 : (some (a0_4.toList == ([] : List UInt8))) = some r := by rw [if_neg (show ¬ (false = true) by decide)] at H; exact H
                 clear H; have H := H1; clear H1
                 obtain rfl := Option.some.inj H
                 have hcz25_0 : wc.cell? ⟨gb145, 0, none⟩ = some (.string a0_0) := (blk_cell BK145.out 0).trans rfl; have hcz25_1 : wc.cell? ⟨gb145, 1, none⟩ = some (.int .i64 a0_1) := (blk_cell BK145.out 1).trans rfl; have hcz25_2 : wc.cell? ⟨gb145, 2, none⟩ = some (.int .i64 a0_2) := (blk_cell BK145.out 2).trans rfl; have hcz25_3 : wc.cell? ⟨gb145, 3, none⟩ = some (.bool false) := (blk_cell BK145.out 3).trans rfl; have hcz25_4 : wc.cell? ⟨gb145, 4, none⟩ = some (.string a0_4) := (blk_cell BK145.out 4).trans rfl; have hcz25_5 : wc.cell? ⟨gb145, 5, none⟩ = some (.int .i64 a0_5) := (blk_cell BK145.out 5).trans rfl; have hcz25_6 : wc.cell? ⟨gb145, 6, none⟩ = some (.bool a0_6) := (blk_cell BK145.out 6).trans rfl; have hcz25_7 : wc.cell? ⟨gb145, 7, none⟩ = some (.int .i64 a0_7) := (blk_cell BK145.out 7).trans rfl; have hfz25_0 := blk_frozen BK145.out 0; have hfz25_1 := blk_frozen BK145.out 1; have hfz25_2 := blk_frozen BK145.out 2; have hfz25_3 := blk_frozen BK145.out 3; have hfz25_4 := blk_frozen BK145.out 4; have hfz25_5 := blk_frozen BK145.out 5; have hfz25_6 := blk_frozen BK145.out 6; have hfz25_7 := blk_frozen BK145.out 7
                 go_wp2
                 go_ret
                 exact ⟨by first | rfl | (simp [errW_none, errW_some] <;> rfl) | (simp [*, errW_none, errW_some] <;> rfl), by repeat (first | (with_reducible first | exact HB.out | apply dA | apply dB | apply dC | refine dE ?_ ‹_›) | exact HB.out)⟩
             · rw [if_neg c22] at H
               have c22b0 : (a0_1 == 2) = false := beq_eq_false_iff_ne.mpr c22; have c22b1 : (a0_1 != 2) = true := bne_iff_ne.mpr c22
               obtain rfl := Option.some.inj H
               have hcz26_0 : wc.cell? ⟨gb145, 0, none⟩ = some (.string a0_0) := (blk_cell BK145.out 0).trans rfl; have hcz26_1 : wc.cell? ⟨gb145, 1, none⟩ = some (.int .i64 a0_1) := (blk_cell BK145.out 1).trans rfl; have hcz26_2 : wc.cell? ⟨gb145, 2, none⟩ = some (.int .i64 a0_2) := (blk_cell BK145.out 2).trans rfl; have hcz26_3 : wc.cell? ⟨gb145, 3, none⟩ = some (.bool a0_3) := (blk_cell BK145.out 3).trans rfl; have hcz26_4 : wc.cell? ⟨gb145, 4, none⟩ = some (.string a0_4) := (blk_cell BK145.out 4).trans rfl; have hcz26_5 : wc.cell? ⟨gb145, 5, none⟩ = some (.int .i64 a0_5) := (blk_cell BK145.out 5).trans rfl; have hcz26_6 : wc.cell? ⟨gb145, 6, none⟩ = some (.bool a0_6) := (blk_cell BK145.out 6).trans rfl; have hcz26_7 : wc.cell? ⟨gb145, 7, none⟩ = some (.int .i64 a0_7) := (blk_cell BK145.out 7).trans rfl; have hfz26_0 := blk_frozen BK145.out 0; have hfz26_1 := blk_frozen BK145.out 1; have hfz26_2 := blk_frozen BK145.out 2; have hfz26_3 := blk_frozen BK145.out 3; have hfz26_4 := blk_frozen BK145.out 4; have hfz26_5 := blk_frozen BK145.out 5; have hfz26_6 := blk_frozen BK145.out 6; have hfz26_7 := blk_frozen BK145.out 7
               go_wp2
               go_ret
               exact ⟨by first | rfl | (simp [errW_none, errW_some] <;> rfl) | (simp [*, errW_none, errW_some] <;> rfl), by repeat (first | (with_reducible first | exact HB.out | apply dA | apply dB | apply dC | refine dE ?_ ‹_›) | exact HB.out)⟩
       · rw [if_neg c17] at H
         have c17b0 : (a0_1 == 3) = false := beq_eq_false_iff_ne.mpr c17; have c17b1 : (a0_1 != 3) = true := bne_iff_ne.mpr c17
         by_cases c27 : a0_1 = 2
         · rw [if_pos c27] at H
           have c27b0 : (a0_1 == 2) = true := beq_iff_eq.mpr c27; have c27b1 : (a0_1 != 2) = false := bne_eq_false_iff_eq.mpr c27; clear c27
           by_cases c28 : a0_3 = true
           · subst c28
             have H1 : (some (a0_4.toList == ([] : List UInt8))) = some r := by rw [if_pos rfl] at H; exact H
             clear H; have H := H1; clear H1
             obtain rfl := Option.some.inj H
             have hcz29_0 : wc.cell? ⟨gb145, 0, none⟩ = some (.string a0_0) := (blk_cell BK145.out 0).trans rfl; have hcz29_1 : wc.cell? ⟨gb145, 1, none⟩ = some (.int .i64 a0_1) := (blk_cell BK145.out 1).trans rfl; have hcz29_2 : wc.cell? ⟨gb145, 2, none⟩ = some (.int .i64 a0_2) := (blk_cell BK145.out 2).trans rfl; have hcz29_3 : wc.cell? ⟨gb145, 3, none⟩ = some (.bool true) := (blk_cell BK145.out 3).trans rfl; have hcz29_4 : wc.cell? ⟨gb145, 4, none⟩ = some (.string a0_4) := (blk_cell BK145.out 4).trans rfl; have hcz29_5 : wc.cell? ⟨gb145, 5, none⟩ = some (.int .i64 a0_5) := (blk_cell BK145.out 5).trans rfl; have hcz29_6 : wc.cell? ⟨gb145, 6, none⟩ = some (.bool a0_6) := (blk_cell BK145.out 6).trans rfl; have hcz29_7 : wc.cell? ⟨gb145, 7, none⟩ = some (.int .i64 a0_7) := (blk_cell BK145.out 7).trans rfl; have hfz29_0 := blk_frozen BK145.out 0; have hfz29_1 := blk_frozen BK145.out 1; have hfz29_2 := blk_frozen BK145.out 2; have hfz29_3 := blk_frozen BK145.out 3; have hfz29_4 := blk_frozen BK145.out 4; have hfz29_5 := blk_frozen BK145.out 5; have hfz29_6 := blk_frozen BK145.out 6; have hfz29_7 := blk_frozen BK145.out 7
             go_wp2
             go_ret
             exact ⟨by first | rfl | (simp [errW_none, errW_some] <;> rfl) | (simp [*, errW_none, errW_some] <;> rfl), by repeat (first | (with_reducible first | exact HB.out | apply dA | apply dB | apply dC | refine dE ?_ ‹_›) | exact HB.out)⟩
           · replace c28 := Bool.eq_false_iff.mpr c28
             subst c28
             have H1 : (if a0_2 < 0 then (some false) else (some (a0_4.toList == ([] : List UInt8)))) = some r := by rw [if_neg (show ¬ (false = true) by decide)] at H; exact H
             clear H; have H := H1; clear H1
             by_cases c30 : a0_2 < 0
             · rw [if_pos c30] at H
               have c30b0 : decide (a0_2 < 0) = true := decide_eq_true c30; clear c30
               obtain rfl := Option.some.inj H
               have hcz31_0 : wc.cell? ⟨gb145, 0, none⟩ = some (.string a0_0) := (blk_cell BK145.out 0).trans rfl; have hcz31_1 : wc.cell? ⟨gb145, 1, none⟩ = some (.int .i64 a0_1) := (blk_cell BK145.out 1).trans rfl; have hcz31_2 : wc.cell? ⟨gb145, 2, none⟩ = some (.int .i64 a0_2) := (blk_cell BK145.out 2).trans rfl; have hcz31_3 : wc.cell? ⟨gb145, 3, none⟩ = some (.bool false) := (blk_cell BK145.out 3).trans rfl; have hcz31_4 : wc.cell? ⟨gb145, 4, none⟩ = some (.string a0_4) := (blk_cell BK145.out 4).trans rfl; have hcz31_5 : wc.cell? ⟨gb145, 5, none⟩ = some (.int .i64 a0_5) := (blk_cell BK145.out 5).trans rfl; have hcz31_6 : wc.cell? ⟨gb145, 6, none⟩ = some (.bool a0_6) := (blk_cell BK145.out 6).trans rfl; have hcz31_7 : wc.cell? ⟨gb145, 7, none⟩ = some (.int .i64 a0_7) := (blk_cell BK145.out 7).trans rfl; have hfz31_0 := blk_frozen BK145.out 0; have hfz31_1 := blk_frozen BK145.out 1; have hfz31_2 := blk_frozen BK145.out 2; have hfz31_3 := blk_frozen BK145.out 3; have hfz31_4 := blk_frozen BK145.out 4; have hfz31_5 := blk_frozen BK145.out 5; have hfz31_6 := blk_frozen BK145.out 6; have hfz31_7 := blk_frozen BK145.out 7
               go_wp2
               go_ret
               exact ⟨by first | rfl | (simp [errW_none, errW_some] <;> rfl) | (simp [*, errW_none, errW_some] <;> rfl), by repeat (first | (with_reducible first | exact HB.out | apply dA | apply dB | apply dC | refine dE ?_ ‹_›) | exact HB.out)⟩
             · rw [if_neg c30] at H
               have c30b0 : decide (a0_2 < 0) = false := decide_eq_false c30; clear c30
               obtain rfl := Option.some.inj H
               have hcz32_0 : wc.cell? ⟨gb145, 0, none⟩ = some (.string a0_0) := (blk_cell BK145.out 0).trans rfl; have hcz32_1 : wc.cell? ⟨gb145, 1, none⟩ = some (.int .i64 a0_1) := (blk_cell BK145.out 1).trans rfl; have hcz32_2 : wc.cell? ⟨gb145, 2, none⟩ = some (.int .i64 a0_2) := (blk_cell BK145.out 2).trans rfl; have hcz32_3 : wc.cell? ⟨gb145, 3, none⟩ = some (.bool false) := (blk_cell BK145.out 3).trans rfl; have hcz32_4 : wc.cell? ⟨gb145, 4, none⟩ = some (.string a0_4) := (blk_cell BK145.out 4).trans rfl; have hcz32_5 : wc.cell? ⟨gb145, 5, none⟩ = some (.int .i64 a0_5) := (blk_cell BK145.out 5).trans rfl; have hcz32_6 : wc.cell? ⟨gb145, 6, none⟩ = some (.bool a0_6) := (blk_cell BK145.out 6).trans rfl; have hcz32_7 : wc.cell? ⟨gb145, 7, none⟩ = some (.int .i64 a0_7) := (blk_cell BK145.out 7).trans rfl; have hfz32_0 := blk_frozen BK145.out 0; have hfz32_1 := blk_frozen BK145.out 1; have hfz32_2 := blk_frozen BK145.out 2; have hfz32_3 := blk_frozen BK145.out 3; have hfz32_4 := blk_frozen BK145.out 4; have hfz32_5 := blk_frozen BK145.out 5; have hfz32_6 := blk_frozen BK145.out 6; have hfz32_7 := blk_frozen BK145.out 7
               go_wp2
               go_ret
               exact ⟨by first | rfl | (simp [errW_none, errW_some] <;> rfl) | (simp [*, errW_none, errW_some] <;> rfl), by repeat (first | (with_reducible first | exact HB.out | apply dA | apply dB | apply dC | refine dE ?_ ‹_›) | exact HB.out)⟩
         · rw [if_neg c27] at H
           have c27b0 : (a0_1 == 2) = false := beq_eq_false_iff_ne.mpr c27; have c27b1 : (a0_1 != 2) = true := bne_iff_ne.mpr c27
           obtain rfl := Option.some.inj H
           have hcz33_0 : wc.cell? ⟨gb145, 0, none⟩ = some (.string a0_0) := (blk_cell BK145.out 0).trans rfl; have hcz33_1 : wc.cell? ⟨gb145, 1, none⟩ = some (.int .i64 a0_1) := (blk_cell BK145.out 1).trans rfl; have hcz33_2 : wc.cell? ⟨gb145, 2, none⟩ = some (.int .i64 a0_2) := (blk_cell BK145.out 2).trans rfl; have hcz33_3 : wc.cell? ⟨gb145, 3, none⟩ = some (.bool a0_3) := (blk_cell BK145.out 3).trans rfl; have hcz33_4 : wc.cell? ⟨gb145, 4, none⟩ = some (.string a0_4) := (blk_cell BK145.out 4).trans rfl; have hcz33_5 : wc.cell? ⟨gb145, 5, none⟩ = some (.int .i64 a0_5) := (blk_cell BK145.out 5).trans rfl; have hcz33_6 : wc.cell? ⟨gb145, 6, none⟩ = some (.bool a0_6) := (blk_cell BK145.out 6).trans rfl; have hcz33_7 : wc.cell? ⟨gb145, 7, none⟩ = some (.int .i64 a0_7) := (blk_cell BK145.out 7).trans rfl; have hfz33_0 := blk_frozen BK145.out 0; have hfz33_1 := blk_frozen BK145.out 1; have hfz33_2 := blk_frozen BK145.out 2; have hfz33_3 := blk_frozen BK145.out 3; have hfz33_4 := blk_frozen BK145.out 4; have hfz33_5 := blk_frozen BK145.out 5; have hfz33_6 := blk_frozen BK145.out 6; have hfz33_7 := blk_frozen BK145.out 7
           go_wp2
           go_ret
           exact ⟨by first | rfl | (simp [errW_none, errW_some] <;> rfl) | (simp [*, errW_none, errW_some] <;> rfl), by repeat (first | (with_reducible first | exact HB.out | apply dA | apply dB | apply dC | refine dE ?_ ‹_›) | exact HB.out)⟩

end Go.Proofs.YtifhebempfjcmaaDoor.P
