-- Printed by this session's own pp.py (wip/tool) out of the translation.
import Derived.Test.YtifhebempfjcmaaPx0
import Derived.Test.YtifhebempfjcmaaPxf35
namespace Go.Proofs.Ytifhebempfjcmaa.P
open Go.RowKit Go.Proofs.YtifhebempfjcmaaW.PrintWords Go.Proofs.YtifhebempfjcmaaW.PrintLast Go.Proofs.YtifhebempfjcmaaW.PrintMore Go.Proofs.Ytifhebempfjcmaa.Mine
attribute [local go_sem] ext45 ext46
attribute [local go_sem] max2_int min2_int max_two min_two max_three min_three max_four min_four   -- for this text's walks alone
set_option linter.unusedVariables false
set_option linter.unusedSimpArgs false

/-! ### tumblerref02_Signed: function 34 -/
def tumblerref02_Signed.j0 : Nat → Bool → Bool → Int → Int → Bool → Option (Int × Int × Bool)
 | 0, _, _, _, _, _ => none
 | k + 1, x1, x27, x180000, x180001, x180002 => if x27 = true then (some (0, 0, false)) else (if x1 = true then ((tumblerref02_Plus.f (Go.bits .xor .u64 18446744073709551615 x180000) (Go.bits .xor .u64 18446744073709551615 x180001) false 0 1 false).bind fun bt181 => (some (wrap64 (bt181.1), bt181.2.1, true))) else (some (wrap64 (x180000), x180001, true)))
def tumblerref02_Signed.f (k : Nat) (a0_0 : Int) (a0_1 : Int) (a0_2 : Bool) (a1 : Bool) : Option (Int × Int × Bool) := if a0_2 = true then (tumblerref02_Signed.j0 k a1 true a0_0 a0_1 a0_2) else (if a0_0 > 9223372036854775808 then (tumblerref02_Signed.j0 k a1 true a0_0 a0_1 a0_2) else (if a0_0 = 9223372036854775808 then (if a0_1 > 0 then (tumblerref02_Signed.j0 k a1 true a0_0 a0_1 a0_2) else (tumblerref02_Signed.j0 k a1 (!a1) a0_0 a0_1 a0_2)) else (tumblerref02_Signed.j0 k a1 false a0_0 a0_1 a0_2)))
theorem tumblerref02_Signed.mono_l : ∀ k, (∀ y0 y1 y2 y3 y4, LeO (tumblerref02_Signed.j0 k y0 y1 y2 y3 y4) (tumblerref02_Signed.j0 (k + 1) y0 y1 y2 y3 y4))
 | 0 => fun _ _ _ _ _ r h => by simp [tumblerref02_Signed.j0] at h
 | k + 1 => by
  have ih0 := tumblerref02_Signed.mono_l k
  · intro y0 y1 y2 y3 y4
    unfold tumblerref02_Signed.j0
    repeat' first
    | (with_reducible exact ih0 _ _ _ _ _)
    | (with_reducible exact LeO.refl _)
    | (with_reducible exact LeO.none _)
    | (with_reducible refine LeO.ite ?_ ?_)
    | (with_reducible refine LeO.bind ?_ (fun _ => ?_))
    | exact ih0 _ _ _ _ _
    | exact LeO.none _
    | refine LeO.ite ?_ ?_
    | refine LeO.bind ?_ (fun _ => ?_)
theorem tumblerref02_Signed.mono : ∀ a0 a1 a2 a3 k, LeO (tumblerref02_Signed.f k a0 a1 a2 a3) (tumblerref02_Signed.f (k + 1) a0 a1 a2 a3) := by
 intro a0 a1 a2 a3 k; have ih0 := tumblerref02_Signed.mono_l k
 unfold tumblerref02_Signed.f
 repeat' first
  | (with_reducible exact ih0 _ _ _ _ _)
  | (with_reducible exact LeO.refl _)
  | (with_reducible exact LeO.none _)
  | (with_reducible refine LeO.ite ?_ ?_)
  | (with_reducible refine LeO.bind ?_ (fun _ => ?_))
  | exact ih0 _ _ _ _ _
  | exact LeO.none _
  | refine LeO.ite ?_ ?_
  | refine LeO.bind ?_ (fun _ => ?_)
set_option maxHeartbeats 8000000 in
set_option maxRecDepth 100000 in
theorem tumblerref02_Signed.calls (k : Nat) (a0_0 : Int) (a0_1 : Int) (a0_2 : Bool) (a1 : Bool) (r1 : Int) (r2 : Int) (r3 : Bool) (w : World) (h : tumblerref02_Signed.f k a0_0 a0_1 a0_2 a1 = some (r1, r2, r3)) :
 Calls Try.prog 34 #[.agg #[.int .u64 a0_0, .int .u64 a0_1, .bool a0_2], .bool a1] w fun e w' => e = .returned (.tuple #[.agg #[.int .i64 r1, .int .u64 r2], .bool r3]) ∧ Below w.heap.size w w' := by
 have hu35 := Try.underlying35; have hu24 := Try.underlying24; have HB := am (Below.refl w.heap.size w); have H : (if a0_2 = true then (tumblerref02_Signed.j0 k a1 true a0_0 a0_1 a0_2) else (if a0_0 > 9223372036854775808 then (tumblerref02_Signed.j0 k a1 true a0_0 a0_1 a0_2) else (if a0_0 = 9223372036854775808 then (if a0_1 > 0 then (tumblerref02_Signed.j0 k a1 true a0_0 a0_1 a0_2) else (tumblerref02_Signed.j0 k a1 (!a1) a0_0 a0_1 a0_2)) else (tumblerref02_Signed.j0 k a1 false a0_0 a0_1 a0_2)))) = some (r1, r2, r3) := h; clear h; have HC3 := Aside0.mk H; clear H
 go_enter Try.func34, Try.ntmps34
 go_upto_region 1 with (first | ((with_reducible refine gate_dst (N := 2) rfl ?_); refine box_event ?hg (N := 2) ?hd (cs := #[.int .u64 a0_0, .int .u64 a0_1, .bool a0_2]) (t := 35) ?hr ?_; (case hd => rfl); (case hg => rfl); (case hr => first | (go_simp; done) | (go_simp; rfl)); intro gb179 hg w4 hbox hb; have n0_ := am (below_step (by repeat (first | (with_reducible first | exact HB.out | apply dA | apply dB | apply dC) | exact HB.out)) hb); have n1_ := am (hbox); have n2_ := am ((by rw [hg]; exact (below_size (by repeat (first | (with_reducible first | exact HB.out | apply dA | apply dB | apply dC) | exact HB.out))) : w.heap.size ≤ gb179)); have n3_ := am ((by rw [hg]; exact (below_size (by repeat (first | (with_reducible first | exact HB.out | apply dA | apply dB | apply dC) | exact HB.out))) : w.heap.size ≤ gb179)); clear HB; have HB := n0_; have BK179 := n1_; have GW179 := n2_; have GE179 := n3_; clear n0_ n1_ n2_ n3_; clear hb hbox hg) | ((with_reducible refine gate_dst (N := 4) rfl ?_); refine box_event ?hg (N := 4) ?hd (cs := #[.int .i64 0, .int .u64 0]) (t := 24) ?hr ?_; (case hd => rfl); (case hg => rfl); (case hr => first | (go_simp; done) | (go_simp; rfl)); intro gb180 hg w5 hbox hb; have n0_ := am (blk_below (g := gb179) (o := .cells #[.int .u64 a0_0, .int .u64 a0_1, .bool a0_2] 35 (0, 0)) (by (with_reducible repeat (first | apply bA | apply bB | apply bC)); exact BK179.out) hb); have n1_ := am (below_step (by repeat (first | (with_reducible first | exact HB.out | apply dA | apply dB | apply dC | refine dE ?_ ‹_›) | exact HB.out)) hb); have n2_ := am (hbox); have n3_ := am ((by rw [hg]; exact (below_size (by repeat (first | (with_reducible first | exact HB.out | apply dA | apply dB | apply dC | refine dE ?_ ‹_›) | exact HB.out))) : w.heap.size ≤ gb180)); have n4_ := am ((by rw [hg]; exact (below_size (by repeat (first | (with_reducible first | exact HB.out | apply dA | apply dB | apply dC | refine dE ?_ ‹_›) | exact HB.out))) : w.heap.size ≤ gb180)); have n5_ := am ((by rw [hg]; exact Nat.ne_of_lt (blk_lt (g := gb179) (o := .cells #[.int .u64 a0_0, .int .u64 a0_1, .bool a0_2] 35 (0, 0)) (by (with_reducible repeat (first | apply bA | apply bB | apply bC)); exact BK179.out)) : gb179 ≠ gb180)); have n6_ := am ((by rw [hg]; exact Nat.ne_of_gt (blk_lt (g := gb179) (o := .cells #[.int .u64 a0_0, .int .u64 a0_1, .bool a0_2] 35 (0, 0)) (by (with_reducible repeat (first | apply bA | apply bB | apply bC)); exact BK179.out)) : gb180 ≠ gb179)); clear BK179; clear HB; have BK179 := n0_; have HB := n1_; have BK180 := n2_; have GW180 := n3_; have GE180 := n4_; have NB179_180 := n5_; have NB180_179 := n6_; clear n0_ n1_ n2_ n3_ n4_ n5_ n6_; clear hb hbox hg))
 (try simp only [Act.put, List.setIfInBounds_toArray, List.set_cons_zero, List.set_cons_succ])
 go_cut [27] (fun v27 wc => ∃ (kq : Nat) (x27_2 : Bool), v27 = .bool x27_2 ∧ Aside0 (tumblerref02_Signed.j0 kq a1 x27_2 a0_0 a0_1 a0_2 = some (r1, r2, r3)) ∧ Aside0 (kq ≤ k) ∧ Aside0 (wc.heap[gb179]? = some (.cells #[.int .u64 a0_0, .int .u64 a0_1, .bool a0_2] 35 (0, 0))) ∧ Aside0 (wc.heap[gb180]? = some (.cells #[.int .i64 0, .int .u64 0] 24 (0, 0))) ∧ Aside0 (Below w.heap.size w wc))
 case first =>
  have H := HC3.out; clear HC3
  by_cases c6 : a0_2 = true
  · subst c6
    have H1 : (tumblerref02_Signed.j0 k a1 true a0_0 a0_1 true) = some (r1, r2, r3) := by rw [if_pos rfl] at H; exact H
    clear H; have H := H1; clear H1; have H' := Aside0.mk H; clear H; have hnb7 := NB179_180.out; have hnc7 := NB180_179.out; have hcz8_0 : w5.cell? ⟨gb179, 0, none⟩ = some (.int .u64 a0_0) := (blk_cell BK179.out 0).trans rfl; have hcz8_1 : w5.cell? ⟨gb179, 1, none⟩ = some (.int .u64 a0_1) := (blk_cell BK179.out 1).trans rfl; have hcz8_2 : w5.cell? ⟨gb179, 2, none⟩ = some (.bool true) := (blk_cell BK179.out 2).trans rfl; have hfz8_0 := blk_frozen BK179.out 0; have hfz8_1 := blk_frozen BK179.out 1; have hfz8_2 := blk_frozen BK179.out 2
    go_wp2
    go_meet
    case rel => exact ⟨_, (true), (by first | rfl | (simp; done) | (simp [*]; done)), H', ⟨by first | omega | exact Nat.le_refl _⟩, ⟨by (with_reducible repeat (first | apply bA | apply bB | apply bC)); exact BK179.out⟩, ⟨by (with_reducible repeat (first | apply bA | apply bB | apply bC)); exact BK180.out⟩, ⟨by repeat (first | (with_reducible first | exact HB.out | apply dA | apply dB | apply dC | refine dE ?_ ‹_›) | exact HB.out)⟩⟩
  · replace c6 := Bool.eq_false_iff.mpr c6
    subst c6
    have H1 : (if a0_0 > 9223372036854775808 then (tumblerref02_Signed.j0 k a1 true a0_0 a0_1 false) else (if a0_0 = 9223372036854775808 then (if a0_1 > 0 then (tumblerref02_Signed.j0 k a1 true a0_0 a0_1 false) else (tumblerref02_Signed.j0 k a1 (!a1) a0_0 a0_1 false)) else (tumblerref02_Signed.j0 k a1 false a0_0 a0_1 false))) = some (r1, r2, r3) := by rw [if_neg (show ¬ (false = true) by decide)] at H; exact H
    clear H; have H := H1; clear H1
    by_cases c9 : a0_0 > 9223372036854775808
    · rw [if_pos c9] at H
      have c9b0 : decide (9223372036854775808 < a0_0) = true := decide_eq_true c9; clear c9
      (first | rw [c9b0] | (simp only [i64_w, i32_w]; rw [c9b0]) | skip)
      have H' := Aside0.mk H; clear H; have hnb10 := NB179_180.out; have hnc10 := NB180_179.out; have hcz11_0 : w5.cell? ⟨gb179, 0, none⟩ = some (.int .u64 a0_0) := (blk_cell BK179.out 0).trans rfl; have hcz11_1 : w5.cell? ⟨gb179, 1, none⟩ = some (.int .u64 a0_1) := (blk_cell BK179.out 1).trans rfl; have hcz11_2 : w5.cell? ⟨gb179, 2, none⟩ = some (.bool false) := (blk_cell BK179.out 2).trans rfl; have hfz11_0 := blk_frozen BK179.out 0; have hfz11_1 := blk_frozen BK179.out 1; have hfz11_2 := blk_frozen BK179.out 2
      go_wp2
      go_meet
      case rel => exact ⟨_, (true), (by first | rfl | (simp; done) | (simp [*]; done)), H', ⟨by first | omega | exact Nat.le_refl _⟩, ⟨by (with_reducible repeat (first | apply bA | apply bB | apply bC)); exact BK179.out⟩, ⟨by (with_reducible repeat (first | apply bA | apply bB | apply bC)); exact BK180.out⟩, ⟨by repeat (first | (with_reducible first | exact HB.out | apply dA | apply dB | apply dC | refine dE ?_ ‹_›) | exact HB.out)⟩⟩
    · rw [if_neg c9] at H
      have c9b0 : decide (9223372036854775808 < a0_0) = false := decide_eq_false c9; clear c9
      (first | rw [c9b0] | (simp only [i64_w, i32_w]; rw [c9b0]) | skip)
      by_cases c12 : a0_0 = 9223372036854775808
      · rw [if_pos c12] at H
        have c12b0 : (a0_0 == 9223372036854775808) = true := beq_iff_eq.mpr c12; have c12b1 : (a0_0 != 9223372036854775808) = false := bne_eq_false_iff_eq.mpr c12; clear c12
        by_cases c13 : a0_1 > 0
        · rw [if_pos c13] at H
          have c13b0 : decide (0 < a0_1) = true := decide_eq_true c13; clear c13; have H' := Aside0.mk H; clear H; have hnb14 := NB179_180.out; have hnc14 := NB180_179.out; have hcz15_0 : w5.cell? ⟨gb179, 0, none⟩ = some (.int .u64 a0_0) := (blk_cell BK179.out 0).trans rfl; have hcz15_1 : w5.cell? ⟨gb179, 1, none⟩ = some (.int .u64 a0_1) := (blk_cell BK179.out 1).trans rfl; have hcz15_2 : w5.cell? ⟨gb179, 2, none⟩ = some (.bool false) := (blk_cell BK179.out 2).trans rfl; have hfz15_0 := blk_frozen BK179.out 0; have hfz15_1 := blk_frozen BK179.out 1; have hfz15_2 := blk_frozen BK179.out 2
          go_wp2
          go_meet
          case rel => exact ⟨_, (true), (by first | rfl | (simp; done) | (simp [*]; done)), H', ⟨by first | omega | exact Nat.le_refl _⟩, ⟨by (with_reducible repeat (first | apply bA | apply bB | apply bC)); exact BK179.out⟩, ⟨by (with_reducible repeat (first | apply bA | apply bB | apply bC)); exact BK180.out⟩, ⟨by repeat (first | (with_reducible first | exact HB.out | apply dA | apply dB | apply dC | refine dE ?_ ‹_›) | exact HB.out)⟩⟩
        · rw [if_neg c13] at H
          have c13b0 : decide (0 < a0_1) = false := decide_eq_false c13; clear c13; have H' := Aside0.mk H; clear H; have hnb16 := NB179_180.out; have hnc16 := NB180_179.out; have hcz17_0 : w5.cell? ⟨gb179, 0, none⟩ = some (.int .u64 a0_0) := (blk_cell BK179.out 0).trans rfl; have hcz17_1 : w5.cell? ⟨gb179, 1, none⟩ = some (.int .u64 a0_1) := (blk_cell BK179.out 1).trans rfl; have hcz17_2 : w5.cell? ⟨gb179, 2, none⟩ = some (.bool false) := (blk_cell BK179.out 2).trans rfl; have hfz17_0 := blk_frozen BK179.out 0; have hfz17_1 := blk_frozen BK179.out 1; have hfz17_2 := blk_frozen BK179.out 2
          go_wp2
          go_meet
          case rel => exact ⟨_, (!a1), (by first | rfl | (simp; done) | (simp [*]; done)), H', ⟨by first | omega | exact Nat.le_refl _⟩, ⟨by (with_reducible repeat (first | apply bA | apply bB | apply bC)); exact BK179.out⟩, ⟨by (with_reducible repeat (first | apply bA | apply bB | apply bC)); exact BK180.out⟩, ⟨by repeat (first | (with_reducible first | exact HB.out | apply dA | apply dB | apply dC | refine dE ?_ ‹_›) | exact HB.out)⟩⟩
      · rw [if_neg c12] at H
        have c12b0 : (a0_0 == 9223372036854775808) = false := beq_eq_false_iff_ne.mpr c12; have c12b1 : (a0_0 != 9223372036854775808) = true := bne_iff_ne.mpr c12; have H' := Aside0.mk H; clear H; have hnb18 := NB179_180.out; have hnc18 := NB180_179.out; have hcz19_0 : w5.cell? ⟨gb179, 0, none⟩ = some (.int .u64 a0_0) := (blk_cell BK179.out 0).trans rfl; have hcz19_1 : w5.cell? ⟨gb179, 1, none⟩ = some (.int .u64 a0_1) := (blk_cell BK179.out 1).trans rfl; have hcz19_2 : w5.cell? ⟨gb179, 2, none⟩ = some (.bool false) := (blk_cell BK179.out 2).trans rfl; have hfz19_0 := blk_frozen BK179.out 0; have hfz19_1 := blk_frozen BK179.out 1; have hfz19_2 := blk_frozen BK179.out 2
        go_wp2
        go_meet
        case rel => exact ⟨_, (false), (by first | rfl | (simp; done) | (simp [*]; done)), H', ⟨by first | omega | exact Nat.le_refl _⟩, ⟨by (with_reducible repeat (first | apply bA | apply bB | apply bC)); exact BK179.out⟩, ⟨by (with_reducible repeat (first | apply bA | apply bB | apply bC)); exact BK180.out⟩, ⟨by repeat (first | (with_reducible first | exact HB.out | apply dA | apply dB | apply dC | refine dE ?_ ‹_›) | exact HB.out)⟩⟩
 case rest =>
  clear HC3
  try clear c1
  try clear p2
  try clear c3
  try clear c6
  try clear c7
  try clear c9
  try clear c9b0
  try clear c10
  try clear c12
  try clear c12b0
  try clear c12b1
  try clear c13
  try clear c13b0
  try clear c14
  try clear c16
  try clear c18
  try clear hcz11_0
  try clear hcz11_1
  try clear hcz11_2
  try clear hcz15_0
  try clear hcz15_1
  try clear hcz15_2
  try clear hcz17_0
  try clear hcz17_1
  try clear hcz17_2
  try clear hcz19_0
  try clear hcz19_1
  try clear hcz19_2
  try clear hcz8_0
  try clear hcz8_1
  try clear hcz8_2
  try clear hfz11_0
  try clear hfz11_1
  try clear hfz11_2
  try clear hfz15_0
  try clear hfz15_1
  try clear hfz15_2
  try clear hfz17_0
  try clear hfz17_1
  try clear hfz17_2
  try clear hfz19_0
  try clear hfz19_1
  try clear hfz19_2
  try clear hfz8_0
  try clear hfz8_1
  try clear hfz8_2
  obtain ⟨kq, x27_2, rfl, HA, HJ2, BK179, BK180, HB⟩ := hcut
  cases kq with
  | zero => exact absurd HA.out (by simp [tumblerref02_Signed.j0])
  | succ kj2 =>
   have H := HA.out; clear HA
   simp only [tumblerref02_Signed.j0] at H
   by_cases c20 : x27_2 = true
   · subst c20
     have H1 : (some (0, 0, false)) = some (r1, r2, r3) := by rw [if_pos rfl] at H; exact H
     clear H; have H := H1; clear H1
     simp only [Option.some.injEq, Prod.mk.injEq] at H
     obtain ⟨rfl, rfl, rfl⟩ := H
     have hnb21 := NB180_179.out; have hnc21 := NB179_180.out; have hcz22_0 : wc.cell? ⟨gb180, 0, none⟩ = some (.int .i64 0) := (blk_cell BK180.out 0).trans rfl; have hcz22_1 : wc.cell? ⟨gb180, 1, none⟩ = some (.int .u64 0) := (blk_cell BK180.out 1).trans rfl; have hfz22_0 := blk_frozen BK180.out 0; have hfz22_1 := blk_frozen BK180.out 1
     go_wp2
     refine bodyPost_ret (results_ct rfl _ _ gb180 24 #[.int .i64 0, .int .u64 0] (0, 0) _ rfl (by (with_reducible repeat (first | apply bA | apply bB | apply bC)); refine blk_put (cs := #[.int .i64 0, .int .u64 0]) ?_ 1 _ rfl; (with_reducible repeat (first | apply bA | apply bB | apply bC)); refine blk_put (cs := #[.int .i64 0, .int .u64 0]) ?_ 0 _ rfl; (with_reducible repeat (first | apply bA | apply bB | apply bC)); exact BK180.out) Try.underlying24 rfl (by kernel_rfl)) rfl ?_
     exact ⟨by first | rfl | (simp [errW_none, errW_some] <;> rfl) | (simp [*, errW_none, errW_some] <;> rfl), by repeat (first | (with_reducible first | exact HB.out | apply dA | apply dB | apply dC | refine dE ?_ ‹_›) | exact HB.out)⟩
   · replace c20 := Bool.eq_false_iff.mpr c20
     subst c20
     have H1 : (if a1 = true then ((tumblerref02_Plus.f (Go.bits .xor .u64 18446744073709551615 a0_0) (Go.bits .xor .u64 18446744073709551615 a0_1) false 0 1 false).bind fun bt181 => (some (wrap64 (bt181.1), bt181.2.1, true))) else (some (wrap64 (a0_0), a0_1, true))) = some (r1, r2, r3) := by rw [if_neg (show ¬ (false = true) by decide)] at H; exact H
     clear H; have H := H1; clear H1
     by_cases c23 : a1 = true
     · subst c23
       have H1 : ((tumblerref02_Plus.f (Go.bits .xor .u64 18446744073709551615 a0_0) (Go.bits .xor .u64 18446744073709551615 a0_1) false 0 1 false).bind fun bt181 => (some (wrap64 (bt181.1), bt181.2.1, true))) = some (r1, r2, r3) := by rw [if_pos rfl] at H; exact H
       clear H; have H := H1; clear H1
       replace H := Option.bind_eq_some_iff.mp H
       obtain ⟨⟨t181, t182, t183⟩, A240, H⟩ := H
       replace H : (some (wrap64 (t181), t182, true)) = some (r1, r2, r3) := H
       have A24 := Aside0.mk A240; clear A240
       simp only [Option.some.injEq, Prod.mk.injEq] at H
       obtain ⟨rfl, rfl, rfl⟩ := H
       have hnb25 := NB179_180.out; have hnc25 := NB180_179.out; have hcz26_0 : wc.cell? ⟨gb179, 0, none⟩ = some (.int .u64 a0_0) := (blk_cell BK179.out 0).trans rfl; have hcz26_1 : wc.cell? ⟨gb179, 1, none⟩ = some (.int .u64 a0_1) := (blk_cell BK179.out 1).trans rfl; have hcz26_2 : wc.cell? ⟨gb179, 2, none⟩ = some (.bool a0_2) := (blk_cell BK179.out 2).trans rfl; have hfz26_0 := blk_frozen BK179.out 0; have hfz26_1 := blk_frozen BK179.out 1; have hfz26_2 := blk_frozen BK179.out 2
       go_wp2_with (first | ((with_reducible refine gate_callee (f := 35) rfl ?_); refine goesL_ (some 45) rfl rfl Try.func35 (by kernel_rfl) rfl #[.agg #[.int .u64 (Go.bits .xor .u64 18446744073709551615 a0_0), .int .u64 (Go.bits .xor .u64 18446744073709551615 a0_1), .bool false], .agg #[.int .u64 0, .int .u64 1, .bool false]] rfl (by (try simp only [List.map_toArray, List.map_cons, List.map_nil]); first | done | rfl | (simp only [List.length_drop, List.length_take]; rfl)) ?_; (with_reducible refine (tumblerref02_Plus.calls (Go.bits .xor .u64 18446744073709551615 a0_0) (Go.bits .xor .u64 18446744073709551615 a0_1) false 0 1 false t181 t182 t183 _ A24.out).mono ?_); rintro e w27 ⟨rfl, hb⟩; refine ⟨_, rfl, ?_⟩; have n0_ := am (blk_below (g := gb179) (o := .cells #[.int .u64 a0_0, .int .u64 a0_1, .bool a0_2] 35 (0, 0)) (by (with_reducible repeat (first | apply bA | apply bB | apply bC)); exact BK179.out) hb); have n1_ := am (blk_below (g := gb180) (o := .cells #[.int .i64 0, .int .u64 0] 24 (0, 0)) (by (with_reducible repeat (first | apply bA | apply bB | apply bC)); exact BK180.out) hb); have n2_ := am (below_step (by repeat (first | (with_reducible first | exact HB.out | apply dA | apply dB | apply dC | refine dE ?_ ‹_›) | exact HB.out)) hb); clear BK179; clear BK180; clear HB; have BK179 := n0_; have BK180 := n1_; have HB := n2_; clear n0_ n1_ n2_; (try clear hb); (try clear hb2); (try clear hk); (try clear hi)) | ((with_reducible refine gate_dst (N := 6) rfl ?_); refine box_event ?hg (N := 6) ?hd (cs := #[.int .u64 0, .int .u64 0, .bool false]) (t := 35) ?hr ?_; (case hd => rfl); (case hg => rfl); (case hr => first | (go_simp; done) | (go_simp; rfl)); intro gb184 hg w28 hbox hb; have n0_ := am (blk_below (g := gb179) (o := .cells #[.int .u64 a0_0, .int .u64 a0_1, .bool a0_2] 35 (0, 0)) (by (with_reducible repeat (first | apply bA | apply bB | apply bC)); exact BK179.out) hb); have n1_ := am (blk_below (g := gb180) (o := .cells #[.int .i64 0, .int .u64 0] 24 (0, 0)) (by (with_reducible repeat (first | apply bA | apply bB | apply bC)); exact BK180.out) hb); have n2_ := am (below_step (by repeat (first | (with_reducible first | exact HB.out | apply dA | apply dB | apply dC | refine dE ?_ ‹_›) | exact HB.out)) hb); have n3_ := am (hbox); have n4_ := am ((by rw [hg]; exact (below_size (by repeat (first | (with_reducible first | exact HB.out | apply dA | apply dB | apply dC | refine dE ?_ ‹_›) | exact HB.out))) : w.heap.size ≤ gb184)); have n5_ := am ((by rw [hg]; exact (below_size (by repeat (first | (with_reducible first | exact HB.out | apply dA | apply dB | apply dC | refine dE ?_ ‹_›) | exact HB.out))) : w.heap.size ≤ gb184)); have n6_ := am ((by rw [hg]; exact Nat.ne_of_lt (blk_lt (g := gb179) (o := .cells #[.int .u64 a0_0, .int .u64 a0_1, .bool a0_2] 35 (0, 0)) (by (with_reducible repeat (first | apply bA | apply bB | apply bC)); exact BK179.out)) : gb179 ≠ gb184)); have n7_ := am ((by rw [hg]; exact Nat.ne_of_gt (blk_lt (g := gb179) (o := .cells #[.int .u64 a0_0, .int .u64 a0_1, .bool a0_2] 35 (0, 0)) (by (with_reducible repeat (first | apply bA | apply bB | apply bC)); exact BK179.out)) : gb184 ≠ gb179)); have n8_ := am ((by rw [hg]; exact Nat.ne_of_lt (blk_lt (g := gb180) (o := .cells #[.int .i64 0, .int .u64 0] 24 (0, 0)) (by (with_reducible repeat (first | apply bA | apply bB | apply bC)); exact BK180.out)) : gb180 ≠ gb184)); have n9_ := am ((by rw [hg]; exact Nat.ne_of_gt (blk_lt (g := gb180) (o := .cells #[.int .i64 0, .int .u64 0] 24 (0, 0)) (by (with_reducible repeat (first | apply bA | apply bB | apply bC)); exact BK180.out)) : gb184 ≠ gb180)); clear BK179; clear BK180; clear HB; have BK179 := n0_; have BK180 := n1_; have HB := n2_; have BK184 := n3_; have GW184 := n4_; have GE184 := n5_; have NB179_184 := n6_; have NB184_179 := n7_; have NB180_184 := n8_; have NB184_180 := n9_; clear n0_ n1_ n2_ n3_ n4_ n5_ n6_ n7_ n8_ n9_; clear hb hbox hg; have hnb29 := NB184_179.out; have hnc29 := NB179_184.out; have hnb30 := NB184_180.out; have hnc30 := NB180_184.out; have hcz31_0 : w28.cell? ⟨gb184, 0, none⟩ = some (.int .u64 0) := (blk_cell BK184.out 0).trans rfl; have hcz31_1 : w28.cell? ⟨gb184, 1, none⟩ = some (.int .u64 0) := (blk_cell BK184.out 1).trans rfl; have hcz31_2 : w28.cell? ⟨gb184, 2, none⟩ = some (.bool false) := (blk_cell BK184.out 2).trans rfl; have hfz31_0 := blk_frozen BK184.out 0; have hfz31_1 := blk_frozen BK184.out 1; have hfz31_2 := blk_frozen BK184.out 2; have hcz32_0 : w28.cell? ⟨gb180, 0, none⟩ = some (.int .i64 0) := (blk_cell BK180.out 0).trans rfl; have hcz32_1 : w28.cell? ⟨gb180, 1, none⟩ = some (.int .u64 0) := (blk_cell BK180.out 1).trans rfl; have hfz32_0 := blk_frozen BK180.out 0; have hfz32_1 := blk_frozen BK180.out 1))
       refine bodyPost_ret (results_ct rfl _ _ gb180 24 #[.int .i64 (wrap64 (t181)), .int .u64 t182] (0, 0) _ rfl (by (with_reducible repeat (first | apply bA | apply bB | apply bC)); refine blk_put (cs := #[.int .i64 (wrap64 (t181)), .int .u64 0]) ?_ 1 _ rfl; (with_reducible repeat (first | apply bA | apply bB | apply bC)); refine blk_put (cs := #[.int .i64 0, .int .u64 0]) ?_ 0 _ rfl; (with_reducible repeat (first | apply bA | apply bB | apply bC)); refine blk_far ?_ NB180_184.out _; (with_reducible repeat (first | apply bA | apply bB | apply bC)); refine blk_far ?_ NB180_184.out _; (with_reducible repeat (first | apply bA | apply bB | apply bC)); refine blk_far ?_ NB180_184.out _; (with_reducible repeat (first | apply bA | apply bB | apply bC)); exact BK180.out) Try.underlying24 rfl (by kernel_rfl)) rfl ?_
       exact ⟨by first | rfl | (simp [errW_none, errW_some] <;> rfl) | (simp [*, errW_none, errW_some] <;> rfl), by repeat (first | (with_reducible first | exact HB.out | apply dA | apply dB | apply dC | refine dE ?_ ‹_›) | exact HB.out)⟩
     · replace c23 := Bool.eq_false_iff.mpr c23
       subst c23
       have H1 : (some (wrap64 (a0_0), a0_1, true)) = some (r1, r2, r3) := by rw [if_neg (show ¬ (false = true) by decide)] at H; exact H
       clear H; have H := H1; clear H1
       simp only [Option.some.injEq, Prod.mk.injEq] at H
       obtain ⟨rfl, rfl, rfl⟩ := H
       have hnb33 := NB179_180.out; have hnc33 := NB180_179.out; have hcz34_0 : wc.cell? ⟨gb179, 0, none⟩ = some (.int .u64 a0_0) := (blk_cell BK179.out 0).trans rfl; have hcz34_1 : wc.cell? ⟨gb179, 1, none⟩ = some (.int .u64 a0_1) := (blk_cell BK179.out 1).trans rfl; have hcz34_2 : wc.cell? ⟨gb179, 2, none⟩ = some (.bool a0_2) := (blk_cell BK179.out 2).trans rfl; have hfz34_0 := blk_frozen BK179.out 0; have hfz34_1 := blk_frozen BK179.out 1; have hfz34_2 := blk_frozen BK179.out 2; have hcz35_0 : wc.cell? ⟨gb180, 0, none⟩ = some (.int .i64 0) := (blk_cell BK180.out 0).trans rfl; have hcz35_1 : wc.cell? ⟨gb180, 1, none⟩ = some (.int .u64 0) := (blk_cell BK180.out 1).trans rfl; have hfz35_0 := blk_frozen BK180.out 0; have hfz35_1 := blk_frozen BK180.out 1
       go_wp2
       refine bodyPost_ret (results_ct rfl _ _ gb180 24 #[.int .i64 (wrap64 (a0_0)), .int .u64 a0_1] (0, 0) _ rfl (by (with_reducible repeat (first | apply bA | apply bB | apply bC)); refine blk_put (cs := #[.int .i64 (wrap64 (a0_0)), .int .u64 0]) ?_ 1 _ rfl; (with_reducible repeat (first | apply bA | apply bB | apply bC)); refine blk_put (cs := #[.int .i64 0, .int .u64 0]) ?_ 0 _ rfl; (with_reducible repeat (first | apply bA | apply bB | apply bC)); exact BK180.out) Try.underlying24 rfl (by kernel_rfl)) rfl ?_
       exact ⟨by first | rfl | (simp [errW_none, errW_some] <;> rfl) | (simp [*, errW_none, errW_some] <;> rfl), by repeat (first | (with_reducible first | exact HB.out | apply dA | apply dB | apply dC | refine dE ?_ ‹_›) | exact HB.out)⟩

end Go.Proofs.Ytifhebempfjcmaa.P
