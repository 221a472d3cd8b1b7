-- Printed by this session's own pp.py (wip/tool) out of the translation.
import Derived.Test.YtcfhmbhlibhlnaaDoorPx0
namespace Go.Proofs.YtcfhmbhlibhlnaaDoor.P
open Go.RowKit Go.Proofs.YtcfhmbhlibhlnaaDoorW.PrintWords Go.Proofs.YtcfhmbhlibhlnaaDoorW.PrintLast Go.Proofs.YtcfhmbhlibhlnaaDoorW.PrintMore Go.Proofs.YtcfhmbhlibhlnaaDoor.Mine
attribute [local go_sem] ext71 ext79 eqA61 eqA62
attribute [local go_sem] max2_int min2_int max_two min_two max_three min_three max_four min_four   -- for this text's walks alone
set_option linter.unusedVariables false
set_option linter.unusedSimpArgs false

/-! ### tumblerref02_By: function 127 -/
mutual
def tumblerref02_By.j0 : Nat → Int → Bool → Int → Int → Bool → Option (Int × Int × Bool × Int)
 | 0, _, _, _, _, _ => none
 | k + 1, x1, x15, x958000, x958001, x958002 => if x15 = true then (some (0, 0, false, 0)) else (tumblerref02_By.l0 k x1 0 127 x958000 x958001 x958002 0 0 false)
def tumblerref02_By.l0 : Nat → Int → Int → Int → Int → Int → Bool → Int → Int → Bool → Option (Int × Int × Bool × Int)
 | 0, _, _, _, _, _, _, _, _, _ => none
 | k + 1, x1, x7, x8, x958000, x958001, x958002, x960000, x960001, x960002 => if x8 ≥ 0 then (if 0 ≤ (IntKind.u64.wrap (Int.tmod x8 64)) then (if x8 ≥ 64 then (tumblerref02_By.j2 k x1 x7 x8 (Go.bits .and .u64 (shr .u64 x958000 (IntKind.u64.wrap (Int.tmod x8 64))) 1) x958000 x958001 x958002 x960000 x960001 x960002) else (tumblerref02_By.j2 k x1 x7 x8 (Go.bits .and .u64 (shr .u64 x958001 (IntKind.u64.wrap (Int.tmod x8 64))) 1) x958000 x958001 x958002 x960000 x960001 x960002)) else (none)) else (some (x960000, x960001, x960002, x7))
def tumblerref02_By.j2 : Nat → Int → Int → Int → Int → Int → Int → Bool → Int → Int → Bool → Option (Int × Int × Bool × Int)
 | 0, _, _, _, _, _, _, _, _, _, _ => none
 | k + 1, x1, x7, x8, x9, x958000, x958001, x958002, x960000, x960001, x960002 => if (IntKind.u64.wrap ((IntKind.u64.wrap (x7 * 2)) + x9)) ≥ x1 then (if x8 ≥ 64 then (if 0 ≤ (IntKind.u64.wrap (Int.tmod x8 64)) then (tumblerref02_By.l0 k x1 (IntKind.u64.wrap ((IntKind.u64.wrap ((IntKind.u64.wrap (x7 * 2)) + x9)) - x1)) (wrap64 (x8 - 1)) x958000 x958001 x958002 (Go.bits .or .u64 x960000 (shl .u64 1 (IntKind.u64.wrap (Int.tmod x8 64)))) x960001 x960002) else (none)) else (if 0 ≤ (IntKind.u64.wrap (Int.tmod x8 64)) then (tumblerref02_By.l0 k x1 (IntKind.u64.wrap ((IntKind.u64.wrap ((IntKind.u64.wrap (x7 * 2)) + x9)) - x1)) (wrap64 (x8 - 1)) x958000 x958001 x958002 x960000 (Go.bits .or .u64 x960001 (shl .u64 1 (IntKind.u64.wrap (Int.tmod x8 64)))) x960002) else (none))) else (tumblerref02_By.l0 k x1 (IntKind.u64.wrap ((IntKind.u64.wrap (x7 * 2)) + x9)) (wrap64 (x8 - 1)) x958000 x958001 x958002 x960000 x960001 x960002)
end
def tumblerref02_By.f (k : Nat) (a0_0 : Int) (a0_1 : Int) (a0_2 : Bool) (a1 : Int) : Option (Int × Int × Bool × Int) := if a1 = 0 then (tumblerref02_By.j0 k a1 true a0_0 a0_1 a0_2) else (tumblerref02_By.j0 k a1 (decide (a1 ≥ 9223372036854775808)) a0_0 a0_1 a0_2)
theorem tumblerref02_By.mono_l : ∀ k, (∀ y0 y1 y2 y3 y4, LeO (tumblerref02_By.j0 k y0 y1 y2 y3 y4) (tumblerref02_By.j0 (k + 1) y0 y1 y2 y3 y4)) ∧ (∀ y0 y1 y2 y3 y4 y5 y6 y7 y8, LeO (tumblerref02_By.l0 k y0 y1 y2 y3 y4 y5 y6 y7 y8) (tumblerref02_By.l0 (k + 1) y0 y1 y2 y3 y4 y5 y6 y7 y8)) ∧ (∀ y0 y1 y2 y3 y4 y5 y6 y7 y8 y9, LeO (tumblerref02_By.j2 k y0 y1 y2 y3 y4 y5 y6 y7 y8 y9) (tumblerref02_By.j2 (k + 1) y0 y1 y2 y3 y4 y5 y6 y7 y8 y9))
 | 0 => ⟨fun _ _ _ _ _ r h => by simp [tumblerref02_By.j0] at h, fun _ _ _ _ _ _ _ _ _ r h => by simp [tumblerref02_By.l0] at h, fun _ _ _ _ _ _ _ _ _ _ r h => by simp [tumblerref02_By.j2] at h⟩
 | k + 1 => by
  obtain ⟨ih0, ih1, ih2⟩ := tumblerref02_By.mono_l k
  refine ⟨?_, ?_, ?_⟩
  · intro y0 y1 y2 y3 y4
    unfold tumblerref02_By.j0
    repeat' first
    | (with_reducible exact ih0 _ _ _ _ _)
    | (with_reducible exact ih1 _ _ _ _ _ _ _ _ _)
    | (with_reducible exact ih2 _ _ _ _ _ _ _ _ _ _)
    | (with_reducible exact LeO.refl _)
    | (with_reducible exact LeO.none _)
    | (with_reducible refine LeO.ite ?_ ?_)
    | (with_reducible refine LeO.bind ?_ (fun _ => ?_))
    | exact ih0 _ _ _ _ _
    | exact ih1 _ _ _ _ _ _ _ _ _
    | exact ih2 _ _ _ _ _ _ _ _ _ _
    | exact LeO.none _
    | refine LeO.ite ?_ ?_
    | refine LeO.bind ?_ (fun _ => ?_)
  · intro y0 y1 y2 y3 y4 y5 y6 y7 y8
    unfold tumblerref02_By.l0
    repeat' first
    | (with_reducible exact ih0 _ _ _ _ _)
    | (with_reducible exact ih1 _ _ _ _ _ _ _ _ _)
    | (with_reducible exact ih2 _ _ _ _ _ _ _ _ _ _)
    | (with_reducible exact LeO.refl _)
    | (with_reducible exact LeO.none _)
    | (with_reducible refine LeO.ite ?_ ?_)
    | (with_reducible refine LeO.bind ?_ (fun _ => ?_))
    | exact ih0 _ _ _ _ _
    | exact ih1 _ _ _ _ _ _ _ _ _
    | exact ih2 _ _ _ _ _ _ _ _ _ _
    | exact LeO.none _
    | refine LeO.ite ?_ ?_
    | refine LeO.bind ?_ (fun _ => ?_)
  · intro y0 y1 y2 y3 y4 y5 y6 y7 y8 y9
    unfold tumblerref02_By.j2
    repeat' first
    | (with_reducible exact ih0 _ _ _ _ _)
    | (with_reducible exact ih1 _ _ _ _ _ _ _ _ _)
    | (with_reducible exact ih2 _ _ _ _ _ _ _ _ _ _)
    | (with_reducible exact LeO.refl _)
    | (with_reducible exact LeO.none _)
    | (with_reducible refine LeO.ite ?_ ?_)
    | (with_reducible refine LeO.bind ?_ (fun _ => ?_))
    | exact ih0 _ _ _ _ _
    | exact ih1 _ _ _ _ _ _ _ _ _
    | exact ih2 _ _ _ _ _ _ _ _ _ _
    | exact LeO.none _
    | refine LeO.ite ?_ ?_
    | refine LeO.bind ?_ (fun _ => ?_)
theorem tumblerref02_By.mono : ∀ a0 a1 a2 a3 k, LeO (tumblerref02_By.f k a0 a1 a2 a3) (tumblerref02_By.f (k + 1) a0 a1 a2 a3) := by
 intro a0 a1 a2 a3 k
 obtain ⟨ih0, ih1, ih2⟩ := tumblerref02_By.mono_l k
 unfold tumblerref02_By.f
 repeat' first
  | (with_reducible exact ih0 _ _ _ _ _)
  | (with_reducible exact ih1 _ _ _ _ _ _ _ _ _)
  | (with_reducible exact ih2 _ _ _ _ _ _ _ _ _ _)
  | (with_reducible exact LeO.refl _)
  | (with_reducible exact LeO.none _)
  | (with_reducible refine LeO.ite ?_ ?_)
  | (with_reducible refine LeO.bind ?_ (fun _ => ?_))
  | exact ih0 _ _ _ _ _
  | exact ih1 _ _ _ _ _ _ _ _ _
  | exact ih2 _ _ _ _ _ _ _ _ _ _
  | exact LeO.none _
  | refine LeO.ite ?_ ?_
  | refine LeO.bind ?_ (fun _ => ?_)
set_option maxHeartbeats 8000000 in
set_option maxRecDepth 100000 in
theorem tumblerref02_By.calls (k : Nat) (a0_0 : Int) (a0_1 : Int) (a0_2 : Bool) (a1 : Int) (r1 : Int) (r2 : Int) (r3 : Bool) (r4 : Int) (w : World) (h : tumblerref02_By.f k a0_0 a0_1 a0_2 a1 = some (r1, r2, r3, r4)) :
 Calls Tryd.prog 127 #[.agg #[.int .u64 a0_0, .int .u64 a0_1, .bool a0_2], .int .u64 a1] w fun e w' => e = .returned (.tuple #[.agg #[.int .u64 r1, .int .u64 r2, .bool r3], .int .u64 r4]) ∧ Below w.heap.size w w' := by
 have hu93 := Tryd.underlying93; have HB := am (Below.refl w.heap.size w); have H : (if a1 = 0 then (tumblerref02_By.j0 k a1 true a0_0 a0_1 a0_2) else (tumblerref02_By.j0 k a1 (decide (a1 ≥ 9223372036854775808)) a0_0 a0_1 a0_2)) = some (r1, r2, r3, r4) := h; clear h; have HC3 := Aside0.mk H; clear H
 go_enter Tryd.func127, Tryd.ntmps127
 go_upto_region 1 with (first | ((with_reducible refine gate_dst (N := 2) rfl ?_); refine box_event ?hg (N := 2) ?hd (cs := #[.int .u64 a0_0, .int .u64 a0_1, .bool a0_2]) (t := 93) ?hr ?_; (case hd => rfl); (case hg => rfl); (case hr => first | (go_simp; done) | (go_simp; rfl)); intro gb957 hg w4 hbox hb; have n0_ := am (below_step bz hb); have n1_ := am (hbox); have n2_ := am ((by rw [hg]; exact (below_size bz) : w.heap.size ≤ gb957)); have n3_ := am ((by rw [hg]; exact (below_size bz) : w.heap.size ≤ gb957)); clear HB; have HB := n0_; have BK957 := n1_; have GW957 := n2_; have GE957 := n3_; clear n0_ n1_ n2_ n3_; clear hb hbox hg) | ((with_reducible refine gate_dst (N := 4) rfl ?_); refine box_event ?hg (N := 4) ?hd (cs := #[.int .u64 0, .int .u64 0, .bool false]) (t := 93) ?hr ?_; (case hd => rfl); (case hg => rfl); (case hr => first | (go_simp; done) | (go_simp; rfl)); intro gb958 hg w5 hbox hb; have n0_ := am (bb BK957 hb); have n1_ := am (below_step bz hb); have n2_ := am (hbox); have n3_ := am ((by rw [hg]; exact (below_size bz) : w.heap.size ≤ gb958)); have n4_ := am ((by rw [hg]; exact (below_size bz) : w.heap.size ≤ gb958)); have n5_ := am ((by rw [hg]; exact Nat.ne_of_lt (bl BK957) : gb957 ≠ gb958)); have n6_ := am ((by rw [hg]; exact Nat.ne_of_gt (bl BK957) : gb958 ≠ gb957)); clear BK957; clear HB; have BK957 := n0_; have HB := n1_; have BK958 := n2_; have GW958 := n3_; have GE958 := n4_; have NB957_958 := n5_; have NB958_957 := n6_; clear n0_ n1_ n2_ n3_ n4_ n5_ n6_; clear hb hbox hg))
 (try simp only [Act.put, List.setIfInBounds_toArray, List.set_cons_zero, List.set_cons_succ])
 go_cut [15] (fun v15 wc => ∃ (kq : Nat) (x15_2 : Bool), v15 = .bool x15_2 ∧ Aside0 (tumblerref02_By.j0 kq a1 x15_2 a0_0 a0_1 a0_2 = some (r1, r2, r3, r4)) ∧ Aside0 (kq ≤ k) ∧ Aside0 (wc.heap[gb957]? = some (.cells #[.int .u64 a0_0, .int .u64 a0_1, .bool a0_2] 93 (0, 0))) ∧ Aside0 (wc.heap[gb958]? = some (.cells #[.int .u64 0, .int .u64 0, .bool false] 93 (0, 0))) ∧ Aside0 (Below w.heap.size w wc))
 case first =>
  have H := HC3.out; clear HC3
  by_cases c6 : a1 = 0
  · rw [if_pos c6] at H
    have c6b0 : (a1 == 0) = true := beq_iff_eq.mpr c6; have c6b1 : (a1 != 0) = false := bne_eq_false_iff_eq.mpr c6; clear c6
    (first | rw [c6b0] | (simp only [i64_w, i32_w]; rw [c6b0]) | skip)
    have H' := Aside0.mk H; clear H
    go_wp2
    go_meet
    case rel => exact ⟨_, (true), (by first | rfl | (simp; done) | (simp [*]; done)), H', ⟨by first | omega | exact Nat.le_refl _⟩, ⟨by (with_reducible repeat (first | apply bA | apply bB | apply bC)); exact BK957.out⟩, ⟨by (with_reducible repeat (first | apply bA | apply bB | apply bC)); exact BK958.out⟩, ⟨by repeat (first | (with_reducible first | exact HB.out | apply dA | apply dB | apply dC | refine dE ?_ ‹_›) | exact HB.out)⟩⟩
  · rw [if_neg c6] at H
    have c6b0 : (a1 == 0) = false := beq_eq_false_iff_ne.mpr c6; have c6b1 : (a1 != 0) = true := bne_iff_ne.mpr c6
    (first | rw [c6b0] | (simp only [i64_w, i32_w]; rw [c6b0]) | skip)
    have H' := Aside0.mk H; clear H
    go_wp2
    go_meet
    case rel => exact ⟨_, (decide (a1 ≥ 9223372036854775808)), (by first | rfl | (simp; done) | (simp [*]; done)), H', ⟨by first | omega | exact Nat.le_refl _⟩, ⟨by (with_reducible repeat (first | apply bA | apply bB | apply bC)); exact BK957.out⟩, ⟨by (with_reducible repeat (first | apply bA | apply bB | apply bC)); exact BK958.out⟩, ⟨by repeat (first | (with_reducible first | exact HB.out | apply dA | apply dB | apply dC | refine dE ?_ ‹_›) | exact HB.out)⟩⟩
 case rest =>
  clear HC3
  try clear c1
  try clear p2
  try clear c6
  try clear c6b0
  try clear c6b1
  obtain ⟨kq, x15_2, rfl, HA, HJ2, BK957, BK958, HB⟩ := hcut
  cases kq with
  | zero => exact absurd HA.out (by simp [tumblerref02_By.j0])
  | succ kj2 =>
   have H := HA.out; clear HA
   simp only [tumblerref02_By.j0] at H
   by_cases c7 : x15_2 = true
   · subst c7
     have H1 : (some (0, 0, false, 0)) = some (r1, r2, r3, r4) := by rw [if_pos rfl] at H; exact H
     clear H; have H := H1; clear H1
     simp only [Option.some.injEq, Prod.mk.injEq] at H
     obtain ⟨rfl, rfl, rfl, rfl⟩ := H
     have hnb8 := NB958_957.out; have hnc8 := NB957_958.out; have hcz9_0 : wc.cell? ⟨gb958, 0, none⟩ = some (.int .u64 0) := (blk_cell BK958.out 0).trans rfl; have hcz9_1 : wc.cell? ⟨gb958, 1, none⟩ = some (.int .u64 0) := (blk_cell BK958.out 1).trans rfl; have hcz9_2 : wc.cell? ⟨gb958, 2, none⟩ = some (.bool false) := (blk_cell BK958.out 2).trans rfl; have hfz9_0 := blk_frozen BK958.out 0; have hfz9_1 := blk_frozen BK958.out 1; have hfz9_2 := blk_frozen BK958.out 2
     go_wp2
     refine bodyPost_ret (results_ct rfl _ _ gb958 93 #[.int .u64 0, .int .u64 0, .bool false] (0, 0) _ rfl (by (with_reducible repeat (first | apply bA | apply bB | apply bC)); refine blk_put (cs := #[.int .u64 0, .int .u64 0, .bool false]) ?_ 2 _ rfl; (with_reducible repeat (first | apply bA | apply bB | apply bC)); refine blk_put (cs := #[.int .u64 0, .int .u64 0, .bool false]) ?_ 1 _ rfl; (with_reducible repeat (first | apply bA | apply bB | apply bC)); refine blk_put (cs := #[.int .u64 0, .int .u64 0, .bool false]) ?_ 0 _ rfl; (with_reducible repeat (first | apply bA | apply bB | apply bC)); exact BK958.out) Tryd.underlying93 rfl (by kernel_rfl)) rfl ?_
     exact ⟨by first | rfl | (simp [errW_none, errW_some] <;> rfl) | (simp [*, errW_none, errW_some] <;> rfl), by repeat (first | (with_reducible first | exact HB.out | apply dA | apply dB | apply dC | refine dE ?_ ‹_›) | exact HB.out)⟩
   · replace c7 := Bool.eq_false_iff.mpr c7
     subst c7
     have H1 : (tumblerref02_By.l0 kj2 a1 0 127 a0_0 a0_1 a0_2 0 0 false) = some (r1, r2, r3, r4) := by rw [if_neg (show ¬ (false = true) by decide)] at H; exact H
     clear H; have H := H1; clear H1; have H' := Aside0.mk H; clear H
     go_wp2_with (first | ((with_reducible refine gate_dst (N := 6) rfl ?_); refine box_event ?hg (N := 6) ?hd (cs := #[.int .u64 0, .int .u64 0, .bool false]) (t := 93) ?hr ?_; (case hd => rfl); (case hg => rfl); (case hr => first | (go_simp; done) | (go_simp; rfl)); intro gb959 hg w10 hbox hb; have n0_ := am (bb BK957 hb); have n1_ := am (bb BK958 hb); have n2_ := am (below_step bz hb); have n3_ := am (hbox); have n4_ := am ((by rw [hg]; exact (below_size bz) : w.heap.size ≤ gb959)); have n5_ := am ((by rw [hg]; exact (below_size bz) : w.heap.size ≤ gb959)); have n6_ := am ((by rw [hg]; exact Nat.ne_of_lt (bl BK957) : gb957 ≠ gb959)); have n7_ := am ((by rw [hg]; exact Nat.ne_of_gt (bl BK957) : gb959 ≠ gb957)); have n8_ := am ((by rw [hg]; exact Nat.ne_of_lt (bl BK958) : gb958 ≠ gb959)); have n9_ := am ((by rw [hg]; exact Nat.ne_of_gt (bl BK958) : gb959 ≠ gb958)); clear BK957; clear BK958; clear HB; have BK957 := n0_; have BK958 := n1_; have HB := n2_; have BK959 := n3_; have GW959 := n4_; have GE959 := n5_; have NB957_959 := n6_; have NB959_957 := n7_; have NB958_959 := n8_; have NB959_958 := n9_; clear n0_ n1_ n2_ n3_ n4_ n5_ n6_ n7_ n8_ n9_; clear hb hbox hg; have hnb11 := NB959_957.out; have hnc11 := NB957_959.out; have hnb12 := NB959_958.out; have hnc12 := NB958_959.out; have hcz13_0 : w10.cell? ⟨gb959, 0, none⟩ = some (.int .u64 0) := (blk_cell BK959.out 0).trans rfl; have hcz13_1 : w10.cell? ⟨gb959, 1, none⟩ = some (.int .u64 0) := (blk_cell BK959.out 1).trans rfl; have hcz13_2 : w10.cell? ⟨gb959, 2, none⟩ = some (.bool false) := (blk_cell BK959.out 2).trans rfl; have hfz13_0 := blk_frozen BK959.out 0; have hfz13_1 := blk_frozen BK959.out 1; have hfz13_2 := blk_frozen BK959.out 2))
     go_loopg [7, 8] kj2 (fun kq v7 v8 w' => ∃ (x7_2 : Int) (x8_2 : Int) (x960000_2 : Int) (x960001_2 : Int), v7 = .int .u64 x7_2 ∧ v8 = .int .i64 x8_2 ∧ Aside0 (tumblerref02_By.l0 kq a1 x7_2 x8_2 a0_0 a0_1 a0_2 x960000_2 x960001_2 false = some (r1, r2, r3, r4)) ∧ Aside0 (kq ≤ kj2) ∧ Aside0 (w'.heap[gb957]? = some (.cells #[.int .u64 a0_0, .int .u64 a0_1, .bool a0_2] 93 (0, 0))) ∧ Aside0 (w'.heap[gb958]? = some (.cells #[.int .u64 0, .int .u64 0, .bool false] 93 (0, 0))) ∧ Aside0 (w'.heap[gb959]? = some (.cells #[.int .u64 x960000_2, .int .u64 x960001_2, .bool false] 93 (0, 0))) ∧ Aside0 (Below w.heap.size w w'))
     case atStart => exact ⟨(0), (127), (0), (0), (by first | rfl | (simp; done) | (simp [*]; done)), (by first | rfl | (simp; done) | (simp [*]; done)), H', ⟨Nat.le_refl _⟩, ⟨by (with_reducible repeat (first | apply bA | apply bB | apply bC)); refine blk_far ?_ NB957_959.out _; (with_reducible repeat (first | apply bA | apply bB | apply bC)); refine blk_far ?_ NB957_959.out _; (with_reducible repeat (first | apply bA | apply bB | apply bC)); refine blk_far ?_ NB957_959.out _; (with_reducible repeat (first | apply bA | apply bB | apply bC)); exact BK957.out⟩, ⟨by (with_reducible repeat (first | apply bA | apply bB | apply bC)); refine blk_far ?_ NB958_959.out _; (with_reducible repeat (first | apply bA | apply bB | apply bC)); refine blk_far ?_ NB958_959.out _; (with_reducible repeat (first | apply bA | apply bB | apply bC)); refine blk_far ?_ NB958_959.out _; (with_reducible repeat (first | apply bA | apply bB | apply bC)); exact BK958.out⟩, ⟨by (with_reducible repeat (first | apply bA | apply bB | apply bC)); refine blk_put (cs := #[.int .u64 0, .int .u64 0, .bool false]) ?_ 2 _ rfl; (with_reducible repeat (first | apply bA | apply bB | apply bC)); refine blk_put (cs := #[.int .u64 0, .int .u64 0, .bool false]) ?_ 1 _ rfl; (with_reducible repeat (first | apply bA | apply bB | apply bC)); refine blk_put (cs := #[.int .u64 0, .int .u64 0, .bool false]) ?_ 0 _ rfl; (with_reducible repeat (first | apply bA | apply bB | apply bC)); exact BK959.out⟩, ⟨by repeat (first | (with_reducible first | exact HB.out | apply dA | apply dB | apply dC | refine dE ?_ ‹_›) | exact HB.out)⟩⟩
     case round =>
      clear H'
      try clear c1
      try clear p2
      try clear c6
      try clear c6b0
      try clear c6b1
      try clear c7
      try clear c8
      try clear c11
      try clear c12
      try clear hcz13_0
      try clear hcz13_1
      try clear hcz13_2
      try clear hcz9_0
      try clear hcz9_1
      try clear hcz9_2
      try clear hfz13_0
      try clear hfz13_1
      try clear hfz13_2
      try clear hfz9_0
      try clear hfz9_1
      try clear hfz9_2
      try clear p2
      obtain ⟨x7_2, x8_2, x960000_2, x960001_2, rfl, rfl, HA, HK2, BK957, BK958, BK959, HB⟩ := hrel
      cases gk with
      | zero => exact absurd HA.out (by simp [tumblerref02_By.l0])
      | succ k2 =>
       have H := HA.out; clear HA
       simp only [tumblerref02_By.l0] at H
       by_cases c14 : x8_2 ≥ 0
       · rw [if_pos c14] at H
         have c14b0 : decide (0 ≤ x8_2) = true := decide_eq_true c14; clear c14
         obtain ⟨ji15, hji15⟩ : ∃ j_ : Int, (IntKind.u64.wrap (Int.tmod x8_2 64)) = j_ := ⟨_, rfl⟩
         replace H : (if 0 ≤ (ji15) then (if x8_2 ≥ 64 then (tumblerref02_By.j2 k2 a1 x7_2 x8_2 (Go.bits .and .u64 (shr .u64 a0_0 (ji15)) 1) a0_0 a0_1 a0_2 x960000_2 x960001_2 false) else (tumblerref02_By.j2 k2 a1 x7_2 x8_2 (Go.bits .and .u64 (shr .u64 a0_1 (ji15)) 1) a0_0 a0_1 a0_2 x960000_2 x960001_2 false)) else (none)) = some (r1, r2, r3, r4) := by first | (rw [hji15] at H; exact H) | (simp only [hji15] at H ⊢; exact H)
         by_cases c16 : 0 ≤ (ji15)
         · rw [if_pos c16] at H
           have c16b0 := eq_true c16; have c16b1 : decide (0 ≤ (ji15)) = true := decide_eq_true c16; clear c16
           obtain ⟨ji17, hji17⟩ : ∃ j_ : Int, (shr .u64 a0_1 (ji15)) = j_ := ⟨_, rfl⟩
           replace H : (if x8_2 ≥ 64 then (tumblerref02_By.j2 k2 a1 x7_2 x8_2 (Go.bits .and .u64 (shr .u64 a0_0 (ji15)) 1) a0_0 a0_1 a0_2 x960000_2 x960001_2 false) else (tumblerref02_By.j2 k2 a1 x7_2 x8_2 (Go.bits .and .u64 (ji17) 1) a0_0 a0_1 a0_2 x960000_2 x960001_2 false)) = some (r1, r2, r3, r4) := by first | (rw [hji17] at H; exact H) | (simp only [hji17] at H ⊢; exact H)
           have hji17_ : (a0_1 / 2 ^ min (ji15).toNat 64) = ji17 := hji17; have hji17z : (ji15) ≤ 64 → (a0_1 / 2 ^ (ji15).toNat) = ji17 := shr_small hji17; have HC18 := Aside0.mk H; clear H; have hnb19 := NB957_958.out; have hnc19 := NB958_957.out; have hnb20 := NB957_959.out; have hnc20 := NB959_957.out; have hcz21_0 : wr.cell? ⟨gb957, 0, none⟩ = some (.int .u64 a0_0) := (blk_cell BK957.out 0).trans rfl; have hcz21_1 : wr.cell? ⟨gb957, 1, none⟩ = some (.int .u64 a0_1) := (blk_cell BK957.out 1).trans rfl; have hcz21_2 : wr.cell? ⟨gb957, 2, none⟩ = some (.bool a0_2) := (blk_cell BK957.out 2).trans rfl; have hfz21_0 := blk_frozen BK957.out 0; have hfz21_1 := blk_frozen BK957.out 1; have hfz21_2 := blk_frozen BK957.out 2
           go_upto_if 30 with (fail)
           go_cut [9] (fun v9 wc => ∃ (kq : Nat) (x9_17 : Int), v9 = .int .u64 x9_17 ∧ Aside0 (tumblerref02_By.j2 kq a1 x7_2 x8_2 x9_17 a0_0 a0_1 a0_2 x960000_2 x960001_2 false = some (r1, r2, r3, r4)) ∧ Aside0 (kq ≤ k2) ∧ Aside0 (wc.heap[gb957]? = some (.cells #[.int .u64 a0_0, .int .u64 a0_1, .bool a0_2] 93 (0, 0))) ∧ Aside0 (wc.heap[gb958]? = some (.cells #[.int .u64 0, .int .u64 0, .bool false] 93 (0, 0))) ∧ Aside0 (wc.heap[gb959]? = some (.cells #[.int .u64 x960000_2, .int .u64 x960001_2, .bool false] 93 (0, 0))) ∧ Aside0 (Below w.heap.size w wc))
           case first =>
            have H := HC18.out; clear HC18
            by_cases c22 : x8_2 ≥ 64
            · rw [if_pos c22] at H
              have c22b0 : decide (64 ≤ x8_2) = true := decide_eq_true c22; clear c22
              (first | rw [c22b0] | (simp only [i64_w, i32_w]; rw [c22b0]) | skip)
              have c23b0 := eq_true (of_decide_eq_true (by first | (with_reducible assumption) | assumption) : 0 ≤ (ji15))
              obtain ⟨ji24, hji24⟩ : ∃ j_ : Int, (shr .u64 a0_0 (ji15)) = j_ := ⟨_, rfl⟩
              replace H : (tumblerref02_By.j2 k2 a1 x7_2 x8_2 (Go.bits .and .u64 (ji24) 1) a0_0 a0_1 a0_2 x960000_2 x960001_2 false) = some (r1, r2, r3, r4) := by first | (rw [hji24] at H; exact H) | (simp only [hji24] at H ⊢; exact H)
              have hji24_ : (a0_0 / 2 ^ min (ji15).toNat 64) = ji24 := hji24; have hji24z : (ji15) ≤ 64 → (a0_0 / 2 ^ (ji15).toNat) = ji24 := shr_small hji24; have H' := Aside0.mk H; clear H; have hnb25 := NB957_958.out; have hnc25 := NB958_957.out; have hnb26 := NB957_959.out; have hnc26 := NB959_957.out; have hcz27_0 : wr.cell? ⟨gb957, 0, none⟩ = some (.int .u64 a0_0) := (blk_cell BK957.out 0).trans rfl; have hcz27_1 : wr.cell? ⟨gb957, 1, none⟩ = some (.int .u64 a0_1) := (blk_cell BK957.out 1).trans rfl; have hcz27_2 : wr.cell? ⟨gb957, 2, none⟩ = some (.bool a0_2) := (blk_cell BK957.out 2).trans rfl; have hfz27_0 := blk_frozen BK957.out 0; have hfz27_1 := blk_frozen BK957.out 1; have hfz27_2 := blk_frozen BK957.out 2
              go_wp2
              go_meet
              case rel => exact ⟨_, (Go.bits .and .u64 (ji24) 1), (by first | rfl | (simp; done) | (simp only [← hji24] <;> (first | rfl | simp)) | (simp [*]; done)), H', ⟨by have := HJ2.out; have := HK2.out; first | omega | exact Nat.le_refl _⟩, ⟨by (with_reducible repeat (first | apply bA | apply bB | apply bC)); exact BK957.out⟩, ⟨by (with_reducible repeat (first | apply bA | apply bB | apply bC)); exact BK958.out⟩, ⟨by (with_reducible repeat (first | apply bA | apply bB | apply bC)); exact BK959.out⟩, ⟨by repeat (first | (with_reducible first | exact HB.out | apply dA | apply dB | apply dC | refine dE ?_ ‹_›) | exact HB.out)⟩⟩
            · rw [if_neg c22] at H
              have c22b0 : decide (64 ≤ x8_2) = false := decide_eq_false c22; clear c22
              (first | rw [c22b0] | (simp only [i64_w, i32_w]; rw [c22b0]) | skip)
              have H' := Aside0.mk H; clear H
              go_wp2
              go_meet
              case rel => exact ⟨_, (Go.bits .and .u64 (ji17) 1), (by first | rfl | (simp; done) | (simp only [← hji17] <;> (first | rfl | simp)) | (simp [*]; done)), H', ⟨by have := HJ2.out; have := HK2.out; first | omega | exact Nat.le_refl _⟩, ⟨by (with_reducible repeat (first | apply bA | apply bB | apply bC)); exact BK957.out⟩, ⟨by (with_reducible repeat (first | apply bA | apply bB | apply bC)); exact BK958.out⟩, ⟨by (with_reducible repeat (first | apply bA | apply bB | apply bC)); exact BK959.out⟩, ⟨by repeat (first | (with_reducible first | exact HB.out | apply dA | apply dB | apply dC | refine dE ?_ ‹_›) | exact HB.out)⟩⟩
           case rest =>
            clear HC18
            try clear c1
            try clear c2
            try clear p2
            try clear c6
            try clear c6b0
            try clear c6b1
            try clear c7
            try clear c8
            try clear c11
            try clear c12
            try clear c14
            try clear c14b0
            try clear c16
            try clear c16b0
            try clear c16b1
            try clear c19
            try clear c20
            try clear c22
            try clear c22b0
            try clear c23
            try clear c23b0
            try clear c25
            try clear c26
            try clear hcz13_0
            try clear hcz13_1
            try clear hcz13_2
            try clear hcz21_0
            try clear hcz21_1
            try clear hcz21_2
            try clear hcz27_0
            try clear hcz27_1
            try clear hcz27_2
            try clear hcz9_0
            try clear hcz9_1
            try clear hcz9_2
            try clear hfz13_0
            try clear hfz13_1
            try clear hfz13_2
            try clear hfz21_0
            try clear hfz21_1
            try clear hfz21_2
            try clear hfz27_0
            try clear hfz27_1
            try clear hfz27_2
            try clear hfz9_0
            try clear hfz9_1
            try clear hfz9_2
            try clear p2
            obtain ⟨kq, x9_17, rfl, HA, HJ17, BK957, BK958, BK959, HB⟩ := hcut
            cases kq with
            | zero => exact absurd HA.out (by simp [tumblerref02_By.j2])
            | succ kj17 =>
             have H := HA.out; clear HA
             simp only [tumblerref02_By.j2] at H
             by_cases c28 : (IntKind.u64.wrap ((IntKind.u64.wrap (x7_2 * 2)) + x9_17)) ≥ a1
             · rw [if_pos c28] at H
               have c28b0 : decide (a1 ≤ (IntKind.u64.wrap ((IntKind.u64.wrap (x7_2 * 2)) + x9_17))) = true := decide_eq_true c28; clear c28
               by_cases c29 : x8_2 ≥ 64
               · rw [if_pos c29] at H
                 have c29b0 : decide (64 ≤ x8_2) = true := decide_eq_true c29; clear c29
                 replace H : (if 0 ≤ (ji15) then (tumblerref02_By.l0 kj17 a1 (IntKind.u64.wrap ((IntKind.u64.wrap ((IntKind.u64.wrap (x7_2 * 2)) + x9_17)) - a1)) (wrap64 (x8_2 - 1)) a0_0 a0_1 a0_2 (Go.bits .or .u64 x960000_2 (shl .u64 1 (ji15))) x960001_2 false) else (none)) = some (r1, r2, r3, r4) := by first | (rw [hji15] at H; exact H) | (simp only [hji15] at H ⊢; exact H)
                 by_cases c30 : 0 ≤ (ji15)
                 · rw [if_pos c30] at H
                   have c30b0 := eq_true c30; have c30b1 : decide (0 ≤ (ji15)) = true := decide_eq_true c30; clear c30
                   obtain ⟨ji31, hji31⟩ : ∃ j_ : Int, (shl .u64 1 (ji15)) = j_ := ⟨_, rfl⟩
                   replace H : (tumblerref02_By.l0 kj17 a1 (IntKind.u64.wrap ((IntKind.u64.wrap ((IntKind.u64.wrap (x7_2 * 2)) + x9_17)) - a1)) (wrap64 (x8_2 - 1)) a0_0 a0_1 a0_2 (Go.bits .or .u64 x960000_2 (ji31)) x960001_2 false) = some (r1, r2, r3, r4) := by first | (rw [hji31] at H; exact H) | (simp only [hji31] at H ⊢; exact H)
                   have hji31_ : (IntKind.u64.wrap (1 * 2 ^ min (ji15).toNat 64)) = ji31 := hji31; have hji31z : (ji15) ≤ 64 → (IntKind.u64.wrap (1 * 2 ^ (ji15).toNat)) = ji31 := shl_small hji31
                   have hji31u : (IntKind.u64.wrap (2 ^ min (ji15).toNat 64)) = ji31 := by have h_ := hji31_; rw [Int.one_mul] at h_; exact h_
                   have hji31v : (ji15) ≤ 64 → (IntKind.u64.wrap (2 ^ (ji15).toNat)) = ji31 := fun hle_ => by have h_ := hji31z hle_; rw [Int.one_mul] at h_; exact h_
                   have H' := Aside0.mk H; clear H; have hnb32 := NB959_957.out; have hnc32 := NB957_959.out; have hnb33 := NB959_958.out; have hnc33 := NB958_959.out; have hcz34_0 : wc.cell? ⟨gb959, 0, none⟩ = some (.int .u64 x960000_2) := (blk_cell BK959.out 0).trans rfl; have hcz34_1 : wc.cell? ⟨gb959, 1, none⟩ = some (.int .u64 x960001_2) := (blk_cell BK959.out 1).trans rfl; have hcz34_2 : wc.cell? ⟨gb959, 2, none⟩ = some (.bool false) := (blk_cell BK959.out 2).trans rfl; have hfz34_0 := blk_frozen BK959.out 0; have hfz34_1 := blk_frozen BK959.out 1; have hfz34_2 := blk_frozen BK959.out 2
                   go_wp2
                   go_roundg kj17
                   case measure => have := HJ2.out; have := HK2.out; have := HJ17.out; omega
                   case rel => exact ⟨(IntKind.u64.wrap ((IntKind.u64.wrap ((IntKind.u64.wrap (x7_2 * 2)) + x9_17)) - a1)), (wrap64 (x8_2 - 1)), (Go.bits .or .u64 x960000_2 (ji31)), (x960001_2), (by first | rfl | (simp; done) | (simp [*]; done)), (by first | rfl | (simp; done) | (simp [*]; done)), H', ⟨by have := HJ2.out; have := HK2.out; have := HJ17.out; omega⟩, ⟨by (with_reducible repeat (first | apply bA | apply bB | apply bC)); refine blk_far ?_ NB957_959.out _; (with_reducible repeat (first | apply bA | apply bB | apply bC)); exact BK957.out⟩, ⟨by (with_reducible repeat (first | apply bA | apply bB | apply bC)); refine blk_far ?_ NB958_959.out _; (with_reducible repeat (first | apply bA | apply bB | apply bC)); exact BK958.out⟩, ⟨by (with_reducible repeat (first | apply bA | apply bB | apply bC)); refine blk_put (cs := #[.int .u64 x960000_2, .int .u64 x960001_2, .bool false]) ?_ 0 _ rfl; (with_reducible repeat (first | apply bA | apply bB | apply bC)); exact BK959.out⟩, ⟨by repeat (first | (with_reducible first | exact HB.out | apply dA | apply dB | apply dC | refine dE ?_ ‹_›) | exact HB.out)⟩⟩
                 · rw [if_neg c30] at H
                   exact absurd H (by simp)
               · rw [if_neg c29] at H
                 have c29b0 : decide (64 ≤ x8_2) = false := decide_eq_false c29; clear c29
                 replace H : (if 0 ≤ (ji15) then (tumblerref02_By.l0 kj17 a1 (IntKind.u64.wrap ((IntKind.u64.wrap ((IntKind.u64.wrap (x7_2 * 2)) + x9_17)) - a1)) (wrap64 (x8_2 - 1)) a0_0 a0_1 a0_2 x960000_2 (Go.bits .or .u64 x960001_2 (shl .u64 1 (ji15))) false) else (none)) = some (r1, r2, r3, r4) := by first | (rw [hji15] at H; exact H) | (simp only [hji15] at H ⊢; exact H)
                 by_cases c35 : 0 ≤ (ji15)
                 · rw [if_pos c35] at H
                   have c35b0 := eq_true c35; have c35b1 : decide (0 ≤ (ji15)) = true := decide_eq_true c35; clear c35
                   obtain ⟨ji36, hji36⟩ : ∃ j_ : Int, (shl .u64 1 (ji15)) = j_ := ⟨_, rfl⟩
                   replace H : (tumblerref02_By.l0 kj17 a1 (IntKind.u64.wrap ((IntKind.u64.wrap ((IntKind.u64.wrap (x7_2 * 2)) + x9_17)) - a1)) (wrap64 (x8_2 - 1)) a0_0 a0_1 a0_2 x960000_2 (Go.bits .or .u64 x960001_2 (ji36)) false) = some (r1, r2, r3, r4) := by first | (rw [hji36] at H; exact H) | (simp only [hji36] at H ⊢; exact H)
                   have hji36_ : (IntKind.u64.wrap (1 * 2 ^ min (ji15).toNat 64)) = ji36 := hji36; have hji36z : (ji15) ≤ 64 → (IntKind.u64.wrap (1 * 2 ^ (ji15).toNat)) = ji36 := shl_small hji36
                   have hji36u : (IntKind.u64.wrap (2 ^ min (ji15).toNat 64)) = ji36 := by have h_ := hji36_; rw [Int.one_mul] at h_; exact h_
                   have hji36v : (ji15) ≤ 64 → (IntKind.u64.wrap (2 ^ (ji15).toNat)) = ji36 := fun hle_ => by have h_ := hji36z hle_; rw [Int.one_mul] at h_; exact h_
                   have H' := Aside0.mk H; clear H; have hnb37 := NB959_957.out; have hnc37 := NB957_959.out; have hnb38 := NB959_958.out; have hnc38 := NB958_959.out; have hcz39_0 : wc.cell? ⟨gb959, 0, none⟩ = some (.int .u64 x960000_2) := (blk_cell BK959.out 0).trans rfl; have hcz39_1 : wc.cell? ⟨gb959, 1, none⟩ = some (.int .u64 x960001_2) := (blk_cell BK959.out 1).trans rfl; have hcz39_2 : wc.cell? ⟨gb959, 2, none⟩ = some (.bool false) := (blk_cell BK959.out 2).trans rfl; have hfz39_0 := blk_frozen BK959.out 0; have hfz39_1 := blk_frozen BK959.out 1; have hfz39_2 := blk_frozen BK959.out 2
                   go_wp2
                   go_roundg kj17
                   case measure => have := HJ2.out; have := HK2.out; have := HJ17.out; omega
                   case rel => exact ⟨(IntKind.u64.wrap ((IntKind.u64.wrap ((IntKind.u64.wrap (x7_2 * 2)) + x9_17)) - a1)), (wrap64 (x8_2 - 1)), (x960000_2), (Go.bits .or .u64 x960001_2 (ji36)), (by first | rfl | (simp; done) | (simp [*]; done)), (by first | rfl | (simp; done) | (simp [*]; done)), H', ⟨by have := HJ2.out; have := HK2.out; have := HJ17.out; omega⟩, ⟨by (with_reducible repeat (first | apply bA | apply bB | apply bC)); refine blk_far ?_ NB957_959.out _; (with_reducible repeat (first | apply bA | apply bB | apply bC)); exact BK957.out⟩, ⟨by (with_reducible repeat (first | apply bA | apply bB | apply bC)); refine blk_far ?_ NB958_959.out _; (with_reducible repeat (first | apply bA | apply bB | apply bC)); exact BK958.out⟩, ⟨by (with_reducible repeat (first | apply bA | apply bB | apply bC)); refine blk_put (cs := #[.int .u64 x960000_2, .int .u64 x960001_2, .bool false]) ?_ 1 _ rfl; (with_reducible repeat (first | apply bA | apply bB | apply bC)); exact BK959.out⟩, ⟨by repeat (first | (with_reducible first | exact HB.out | apply dA | apply dB | apply dC | refine dE ?_ ‹_›) | exact HB.out)⟩⟩
                 · rw [if_neg c35] at H
                   exact absurd H (by simp)
             · rw [if_neg c28] at H
               have c28b0 : decide (a1 ≤ (IntKind.u64.wrap ((IntKind.u64.wrap (x7_2 * 2)) + x9_17))) = false := decide_eq_false c28; clear c28; have H' := Aside0.mk H; clear H
               go_wp2
               go_roundg kj17
               case measure => have := HJ2.out; have := HK2.out; have := HJ17.out; omega
               case rel => exact ⟨(IntKind.u64.wrap ((IntKind.u64.wrap (x7_2 * 2)) + x9_17)), (wrap64 (x8_2 - 1)), (x960000_2), (x960001_2), (by first | rfl | (simp; done) | (simp [*]; done)), (by first | rfl | (simp; done) | (simp [*]; done)), H', ⟨by have := HJ2.out; have := HK2.out; have := HJ17.out; omega⟩, ⟨by (with_reducible repeat (first | apply bA | apply bB | apply bC)); exact BK957.out⟩, ⟨by (with_reducible repeat (first | apply bA | apply bB | apply bC)); exact BK958.out⟩, ⟨by (with_reducible repeat (first | apply bA | apply bB | apply bC)); exact BK959.out⟩, ⟨by repeat (first | (with_reducible first | exact HB.out | apply dA | apply dB | apply dC | refine dE ?_ ‹_›) | exact HB.out)⟩⟩
         · rw [if_neg c16] at H
           exact absurd H (by simp)
       · rw [if_neg c14] at H
         have c14b0 : decide (0 ≤ x8_2) = false := decide_eq_false c14; clear c14
         simp only [Option.some.injEq, Prod.mk.injEq] at H
         obtain ⟨rfl, rfl, rfl, rfl⟩ := H
         have hnb40 := NB959_957.out; have hnc40 := NB957_959.out; have hnb41 := NB959_958.out; have hnc41 := NB958_959.out; have hcz42_0 : wr.cell? ⟨gb959, 0, none⟩ = some (.int .u64 x960000_2) := (blk_cell BK959.out 0).trans rfl; have hcz42_1 : wr.cell? ⟨gb959, 1, none⟩ = some (.int .u64 x960001_2) := (blk_cell BK959.out 1).trans rfl; have hcz42_2 : wr.cell? ⟨gb959, 2, none⟩ = some (.bool false) := (blk_cell BK959.out 2).trans rfl; have hfz42_0 := blk_frozen BK959.out 0; have hfz42_1 := blk_frozen BK959.out 1; have hfz42_2 := blk_frozen BK959.out 2; have hnb43 := NB958_957.out; have hnc43 := NB957_958.out; have hcz44_0 : wr.cell? ⟨gb958, 0, none⟩ = some (.int .u64 0) := (blk_cell BK958.out 0).trans rfl; have hcz44_1 : wr.cell? ⟨gb958, 1, none⟩ = some (.int .u64 0) := (blk_cell BK958.out 1).trans rfl; have hcz44_2 : wr.cell? ⟨gb958, 2, none⟩ = some (.bool false) := (blk_cell BK958.out 2).trans rfl; have hfz44_0 := blk_frozen BK958.out 0; have hfz44_1 := blk_frozen BK958.out 1; have hfz44_2 := blk_frozen BK958.out 2
         go_wp2
         refine bodyPost_ret (results_ct rfl _ _ gb958 93 #[.int .u64 x960000_2, .int .u64 x960001_2, .bool false] (0, 0) _ rfl (by (with_reducible repeat (first | apply bA | apply bB | apply bC)); refine blk_put (cs := #[.int .u64 x960000_2, .int .u64 x960001_2, .bool false]) ?_ 2 _ rfl; (with_reducible repeat (first | apply bA | apply bB | apply bC)); refine blk_put (cs := #[.int .u64 x960000_2, .int .u64 0, .bool false]) ?_ 1 _ rfl; (with_reducible repeat (first | apply bA | apply bB | apply bC)); refine blk_put (cs := #[.int .u64 0, .int .u64 0, .bool false]) ?_ 0 _ rfl; (with_reducible repeat (first | apply bA | apply bB | apply bC)); exact BK958.out) Tryd.underlying93 rfl (by kernel_rfl)) rfl ?_
         exact ⟨by first | rfl | (simp [errW_none, errW_some] <;> rfl) | (simp [*, errW_none, errW_some] <;> rfl), by repeat (first | (with_reducible first | exact HB.out | apply dA | apply dB | apply dC | refine dE ?_ ‹_›) | exact HB.out)⟩

end Go.Proofs.YtcfhmbhlibhlnaaDoor.P
