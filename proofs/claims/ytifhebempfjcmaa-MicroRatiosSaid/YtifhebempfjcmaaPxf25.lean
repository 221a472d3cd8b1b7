-- Printed by this session's own pp.py (wip/tool) out of the translation.
import Derived.Test.YtifhebempfjcmaaPx0
import Derived.Test.YtifhebempfjcmaaPxf30
import Derived.Test.YtifhebempfjcmaaPxf33
import Derived.Test.YtifhebempfjcmaaPxf18
import Derived.Test.YtifhebempfjcmaaPxf28
namespace Go.Proofs.Ytifhebempfjcmaa.P
open Go.RowKit Go.Proofs.YtifhebempfjcmaaW.PrintWords Go.Proofs.YtifhebempfjcmaaW.PrintLast Go.Proofs.YtifhebempfjcmaaW.PrintMore Go.Proofs.Ytifhebempfjcmaa.Mine
attribute [local go_sem] ext45 ext46
attribute [local go_sem] max2_int min2_int max_two min_two max_three min_three max_four min_four   -- for this text's walks alone
set_option linter.unusedVariables false
set_option linter.unusedSimpArgs false

/-! ### tumblerref02_Ratio: function 25 -/
def tumblerref02_Ratio.j0 : Nat → Bool → Bool → Int → Int → Bool → Option (Int × Int)
 | 0, _, _, _, _, _ => none
 | k + 1, x7, x9, x366000, x366001, x366002 => (tumblerref02_Small.f k x366000 x366001 x366002 (x7 != x9)).bind fun bt370 => (if bt370.2 = true then (some (bt370.1, 0)) else (some (0, 10)))
def tumblerref02_Ratio.f (k : Nat) (a0 : Int) (a1 : Int) : Option (Int × Int) := if a1 = 0 then (some (0, 11)) else ((tumblerref02_Of.f a0).bind fun bt351 => ((tumblerref02_Of.f a1).bind fun bt356 => ((tumblerref02_Times.f k bt351.1 bt351.2.1 bt351.2.2.1 1000000).bind fun bt361 => (if bt356.2.1 = 9223372036854775808 then (tumblerref02_Ratio.j0 k bt351.2.2.2 bt356.2.2.2 0 (IntKind.u64.wrap ((IntKind.u64.wrap (bt361.1 * 2)) + (bt361.2.1 / 9223372036854775808))) false) else ((tumblerref02_By.f k bt361.1 bt361.2.1 bt361.2.2 bt356.2.1).bind fun bt366 => (tumblerref02_Ratio.j0 k bt351.2.2.2 bt356.2.2.2 bt366.1 bt366.2.1 bt366.2.2.1))))))
theorem tumblerref02_Ratio.mono_l : ∀ k, (∀ y0 y1 y2 y3 y4, LeO (tumblerref02_Ratio.j0 k y0 y1 y2 y3 y4) (tumblerref02_Ratio.j0 (k + 1) y0 y1 y2 y3 y4))
 | 0 => fun _ _ _ _ _ r h => by simp [tumblerref02_Ratio.j0] at h
 | k + 1 => by
  have ih0 := tumblerref02_Ratio.mono_l k
  · intro y0 y1 y2 y3 y4
    unfold tumblerref02_Ratio.j0
    repeat' first
    | (with_reducible exact ih0 _ _ _ _ _)
    | (with_reducible exact tumblerref02_By.mono _ _ _ _ _)
    | (with_reducible exact tumblerref02_Small.mono _ _ _ _ _)
    | (with_reducible exact tumblerref02_Times.mono _ _ _ _ _)
    | (with_reducible exact LeO.refl _)
    | (with_reducible exact LeO.none _)
    | (with_reducible refine LeO.ite ?_ ?_)
    | (with_reducible refine LeO.bind ?_ (fun _ => ?_))
    | exact ih0 _ _ _ _ _
    | exact tumblerref02_By.mono _ _ _ _ _
    | exact tumblerref02_Small.mono _ _ _ _ _
    | exact tumblerref02_Times.mono _ _ _ _ _
    | exact LeO.none _
    | refine LeO.ite ?_ ?_
    | refine LeO.bind ?_ (fun _ => ?_)
theorem tumblerref02_Ratio.mono : ∀ a0 a1 k, LeO (tumblerref02_Ratio.f k a0 a1) (tumblerref02_Ratio.f (k + 1) a0 a1) := by
 intro a0 a1 k; have ih0 := tumblerref02_Ratio.mono_l k
 unfold tumblerref02_Ratio.f
 repeat' first
  | (with_reducible exact ih0 _ _ _ _ _)
  | (with_reducible exact tumblerref02_By.mono _ _ _ _ _)
  | (with_reducible exact tumblerref02_Small.mono _ _ _ _ _)
  | (with_reducible exact tumblerref02_Times.mono _ _ _ _ _)
  | (with_reducible exact LeO.refl _)
  | (with_reducible exact LeO.none _)
  | (with_reducible refine LeO.ite ?_ ?_)
  | (with_reducible refine LeO.bind ?_ (fun _ => ?_))
  | exact ih0 _ _ _ _ _
  | exact tumblerref02_By.mono _ _ _ _ _
  | exact tumblerref02_Small.mono _ _ _ _ _
  | exact tumblerref02_Times.mono _ _ _ _ _
  | exact LeO.none _
  | refine LeO.ite ?_ ?_
  | refine LeO.bind ?_ (fun _ => ?_)
set_option maxHeartbeats 8000000 in
set_option maxRecDepth 100000 in
theorem tumblerref02_Ratio.calls (k : Nat) (a0 : Int) (a1 : Int) (r1 : Int) (r2 : Int) (w : World) (h : tumblerref02_Ratio.f k a0 a1 = some (r1, r2)) :
 Calls Try.prog 25 #[.int .i64 a0, .int .i64 a1] w fun e w' => e = .returned (.tuple #[.int .i64 r1, .int .i64 r2]) ∧ Below w.heap.size w w' := by
 have hu35 := Try.underlying35; have HB := am (Below.refl w.heap.size w); have H : (if a1 = 0 then (some (0, 11)) else ((tumblerref02_Of.f a0).bind fun bt351 => ((tumblerref02_Of.f a1).bind fun bt356 => ((tumblerref02_Times.f k bt351.1 bt351.2.1 bt351.2.2.1 1000000).bind fun bt361 => (if bt356.2.1 = 9223372036854775808 then (tumblerref02_Ratio.j0 k bt351.2.2.2 bt356.2.2.2 0 (IntKind.u64.wrap ((IntKind.u64.wrap (bt361.1 * 2)) + (bt361.2.1 / 9223372036854775808))) false) else ((tumblerref02_By.f k bt361.1 bt361.2.1 bt361.2.2 bt356.2.1).bind fun bt366 => (tumblerref02_Ratio.j0 k bt351.2.2.2 bt356.2.2.2 bt366.1 bt366.2.1 bt366.2.2.1))))))) = some (r1, r2) := h; clear h
 by_cases c3 : a1 = 0
 · rw [if_pos c3] at H
   have c3b0 : (a1 == 0) = true := beq_iff_eq.mpr c3; have c3b1 : (a1 != 0) = false := bne_eq_false_iff_eq.mpr c3; clear c3
   simp only [Option.some.injEq, Prod.mk.injEq] at H
   obtain ⟨rfl, rfl⟩ := H
   go_enter Try.func25, Try.ntmps25
   go_wp2
   go_ret2
   exact ⟨by first | rfl | (simp [errW_none, errW_some] <;> rfl) | (simp [*, errW_none, errW_some] <;> rfl), by repeat (first | (with_reducible first | exact HB.out | apply dA | apply dB | apply dC) | exact HB.out)⟩
 · rw [if_neg c3] at H
   have c3b0 : (a1 == 0) = false := beq_eq_false_iff_ne.mpr c3; have c3b1 : (a1 != 0) = true := bne_iff_ne.mpr c3
   replace H := Option.bind_eq_some_iff.mp H
   obtain ⟨⟨t351, t352, t353, t354⟩, A40, H⟩ := H
   replace H : ((tumblerref02_Of.f a1).bind fun bt356 => ((tumblerref02_Times.f k t351 t352 t353 1000000).bind fun bt361 => (if bt356.2.1 = 9223372036854775808 then (tumblerref02_Ratio.j0 k t354 bt356.2.2.2 0 (IntKind.u64.wrap ((IntKind.u64.wrap (bt361.1 * 2)) + (bt361.2.1 / 9223372036854775808))) false) else ((tumblerref02_By.f k bt361.1 bt361.2.1 bt361.2.2 bt356.2.1).bind fun bt366 => (tumblerref02_Ratio.j0 k t354 bt356.2.2.2 bt366.1 bt366.2.1 bt366.2.2.1))))) = some (r1, r2) := H
   have A4 := Aside0.mk A40; clear A40
   replace H := Option.bind_eq_some_iff.mp H
   obtain ⟨⟨t356, t357, t358, t359⟩, A50, H⟩ := H
   replace H : ((tumblerref02_Times.f k t351 t352 t353 1000000).bind fun bt361 => (if t357 = 9223372036854775808 then (tumblerref02_Ratio.j0 k t354 t359 0 (IntKind.u64.wrap ((IntKind.u64.wrap (bt361.1 * 2)) + (bt361.2.1 / 9223372036854775808))) false) else ((tumblerref02_By.f k bt361.1 bt361.2.1 bt361.2.2 t357).bind fun bt366 => (tumblerref02_Ratio.j0 k t354 t359 bt366.1 bt366.2.1 bt366.2.2.1)))) = some (r1, r2) := H
   have A5 := Aside0.mk A50; clear A50
   replace H := Option.bind_eq_some_iff.mp H
   obtain ⟨⟨t361, t362, t363⟩, A60, H⟩ := H
   replace H : (if t357 = 9223372036854775808 then (tumblerref02_Ratio.j0 k t354 t359 0 (IntKind.u64.wrap ((IntKind.u64.wrap (t361 * 2)) + (t362 / 9223372036854775808))) false) else ((tumblerref02_By.f k t361 t362 t363 t357).bind fun bt366 => (tumblerref02_Ratio.j0 k t354 t359 bt366.1 bt366.2.1 bt366.2.2.1))) = some (r1, r2) := H
   have A6 := Aside0.mk A60; clear A60; have HC7 := Aside0.mk H; clear H
   go_enter Try.func25, Try.ntmps25
   go_upto_if 31 with (first | ((with_reducible refine gate_callee (f := 28) rfl ?_); refine goesL_ (some 18) rfl rfl Try.func28 (by kernel_rfl) rfl #[.int .i64 a0] rfl (by (try simp only [List.map_toArray, List.map_cons, List.map_nil]); first | done | rfl | (simp only [List.length_drop, List.length_take]; rfl)) ?_; (with_reducible refine (tumblerref02_Of.calls a0 t351 t352 t353 t354 _ A4.out).mono ?_); rintro e w8 ⟨rfl, hb⟩; refine ⟨_, rfl, ?_⟩; have n0_ := am (below_step bz hb); clear HB; have HB := n0_; clear n0_; (try clear hb); (try clear hb2); (try clear hk); (try clear hi)) | ((with_reducible refine gate_dst (N := 6) rfl ?_); refine box_event ?hg (N := 6) ?hd (cs := #[.int .u64 0, .int .u64 0, .bool false]) (t := 35) ?hr ?_; (case hd => rfl); (case hg => rfl); (case hr => first | (go_simp; done) | (go_simp; rfl)); intro gb355 hg w9 hbox hb; have n0_ := am (below_step bz hb); have n1_ := am (hbox); have n2_ := am ((by rw [hg]; exact (below_size bz) : w.heap.size ≤ gb355)); have n3_ := am ((by rw [hg]; exact (below_size bz) : w.heap.size ≤ gb355)); clear HB; have HB := n0_; have BK355 := n1_; have GW355 := n2_; have GE355 := n3_; clear n0_ n1_ n2_ n3_; clear hb hbox hg; have hcz10_0 : w9.cell? ⟨gb355, 0, none⟩ = some (.int .u64 0) := (blk_cell BK355.out 0).trans rfl; have hcz10_1 : w9.cell? ⟨gb355, 1, none⟩ = some (.int .u64 0) := (blk_cell BK355.out 1).trans rfl; have hcz10_2 : w9.cell? ⟨gb355, 2, none⟩ = some (.bool false) := (blk_cell BK355.out 2).trans rfl; have hfz10_0 := blk_frozen BK355.out 0; have hfz10_1 := blk_frozen BK355.out 1; have hfz10_2 := blk_frozen BK355.out 2) | ((with_reducible refine gate_callee (f := 28) rfl ?_); refine goesL_ (some 23) rfl rfl Try.func28 (by kernel_rfl) rfl #[.int .i64 a1] rfl (by (try simp only [List.map_toArray, List.map_cons, List.map_nil]); first | done | rfl | (simp only [List.length_drop, List.length_take]; rfl)) ?_; (with_reducible refine (tumblerref02_Of.calls a1 t356 t357 t358 t359 _ A5.out).mono ?_); rintro e w11 ⟨rfl, hb⟩; refine ⟨_, rfl, ?_⟩; have n0_ := am (blk_below (g := gb355) (o := .cells #[.int .u64 t351, .int .u64 t352, .bool t353] 35 (0, 0)) (by (with_reducible repeat (first | apply bA | apply bB | apply bC)); refine blk_put (cs := #[.int .u64 t351, .int .u64 t352, .bool false]) ?_ 2 _ rfl; (with_reducible repeat (first | apply bA | apply bB | apply bC)); refine blk_put (cs := #[.int .u64 t351, .int .u64 0, .bool false]) ?_ 1 _ rfl; (with_reducible repeat (first | apply bA | apply bB | apply bC)); refine blk_put (cs := #[.int .u64 0, .int .u64 0, .bool false]) ?_ 0 _ rfl; (with_reducible repeat (first | apply bA | apply bB | apply bC)); exact BK355.out) hb); have n1_ := am (below_step bz hb); clear BK355; clear HB; have BK355 := n0_; have HB := n1_; clear n0_ n1_; (try clear hb); (try clear hb2); (try clear hk); (try clear hi)) | ((with_reducible refine gate_dst (N := 8) rfl ?_); refine box_event ?hg (N := 8) ?hd (cs := #[.int .u64 0, .int .u64 0, .bool false]) (t := 35) ?hr ?_; (case hd => rfl); (case hg => rfl); (case hr => first | (go_simp; done) | (go_simp; rfl)); intro gb360 hg w12 hbox hb; have n0_ := am (bb BK355 hb); have n1_ := am (below_step bz hb); have n2_ := am (hbox); have n3_ := am ((by rw [hg]; exact (below_size bz) : w.heap.size ≤ gb360)); have n4_ := am ((by rw [hg]; exact (below_size bz) : w.heap.size ≤ gb360)); have n5_ := am ((by rw [hg]; exact Nat.ne_of_lt (blk_lt (g := gb355) (o := .cells #[.int .u64 t351, .int .u64 t352, .bool t353] 35 (0, 0)) (bq BK355)) : gb355 ≠ gb360)); have n6_ := am ((by rw [hg]; exact Nat.ne_of_gt (blk_lt (g := gb355) (o := .cells #[.int .u64 t351, .int .u64 t352, .bool t353] 35 (0, 0)) (bq BK355)) : gb360 ≠ gb355)); clear BK355; clear HB; have BK355 := n0_; have HB := n1_; have BK360 := n2_; have GW360 := n3_; have GE360 := n4_; have NB355_360 := n5_; have NB360_355 := n6_; clear n0_ n1_ n2_ n3_ n4_ n5_ n6_; clear hb hbox hg; have hnb13 := NB360_355.out; have hnc13 := NB355_360.out; have hcz14_0 : w12.cell? ⟨gb360, 0, none⟩ = some (.int .u64 0) := (blk_cell BK360.out 0).trans rfl; have hcz14_1 : w12.cell? ⟨gb360, 1, none⟩ = some (.int .u64 0) := (blk_cell BK360.out 1).trans rfl; have hcz14_2 : w12.cell? ⟨gb360, 2, none⟩ = some (.bool false) := (blk_cell BK360.out 2).trans rfl; have hfz14_0 := blk_frozen BK360.out 0; have hfz14_1 := blk_frozen BK360.out 1; have hfz14_2 := blk_frozen BK360.out 2; have hcz15_0 : w12.cell? ⟨gb355, 0, none⟩ = some (.int .u64 t351) := (blk_cell BK355.out 0).trans rfl; have hcz15_1 : w12.cell? ⟨gb355, 1, none⟩ = some (.int .u64 t352) := (blk_cell BK355.out 1).trans rfl; have hcz15_2 : w12.cell? ⟨gb355, 2, none⟩ = some (.bool t353) := (blk_cell BK355.out 2).trans rfl; have hfz15_0 := blk_frozen BK355.out 0; have hfz15_1 := blk_frozen BK355.out 1; have hfz15_2 := blk_frozen BK355.out 2) | ((with_reducible refine gate_callee (f := 18) rfl ?_); refine goesL_ (some 27) rfl rfl Try.func18 (by kernel_rfl) rfl #[.agg #[.int .u64 t351, .int .u64 t352, .bool t353], .int .u64 1000000] rfl (by (try simp only [List.map_toArray, List.map_cons, List.map_nil]); first | done | rfl | (simp only [List.length_drop, List.length_take]; rfl)) ?_; (with_reducible refine (tumblerref02_Times.calls k t351 t352 t353 1000000 t361 t362 t363 _ A6.out).mono ?_); rintro e w16 ⟨rfl, hb⟩; refine ⟨_, rfl, ?_⟩; have n0_ := am (blk_below (g := gb355) (o := .cells #[.int .u64 t351, .int .u64 t352, .bool t353] 35 (0, 0)) (by (with_reducible repeat (first | apply bA | apply bB | apply bC)); refine blk_far ?_ NB355_360.out _; (with_reducible repeat (first | apply bA | apply bB | apply bC)); refine blk_far ?_ NB355_360.out _; (with_reducible repeat (first | apply bA | apply bB | apply bC)); refine blk_far ?_ NB355_360.out _; (with_reducible repeat (first | apply bA | apply bB | apply bC)); exact BK355.out) hb); have n1_ := am (blk_below (g := gb360) (o := .cells #[.int .u64 t356, .int .u64 t357, .bool t358] 35 (0, 0)) (by (with_reducible repeat (first | apply bA | apply bB | apply bC)); refine blk_put (cs := #[.int .u64 t356, .int .u64 t357, .bool false]) ?_ 2 _ rfl; (with_reducible repeat (first | apply bA | apply bB | apply bC)); refine blk_put (cs := #[.int .u64 t356, .int .u64 0, .bool false]) ?_ 1 _ rfl; (with_reducible repeat (first | apply bA | apply bB | apply bC)); refine blk_put (cs := #[.int .u64 0, .int .u64 0, .bool false]) ?_ 0 _ rfl; (with_reducible repeat (first | apply bA | apply bB | apply bC)); exact BK360.out) hb); have n2_ := am (below_step bz hb); clear BK355; clear BK360; clear HB; have BK355 := n0_; have BK360 := n1_; have HB := n2_; clear n0_ n1_ n2_; (try clear hb); (try clear hb2); (try clear hk); (try clear hi)) | ((with_reducible refine gate_dst (N := 10) rfl ?_); refine box_event ?hg (N := 10) ?hd (cs := #[.int .u64 0, .int .u64 0, .bool false]) (t := 35) ?hr ?_; (case hd => rfl); (case hg => rfl); (case hr => first | (go_simp; done) | (go_simp; rfl)); intro gb364 hg w17 hbox hb; have n0_ := am (bb BK355 hb); have n1_ := am (bb BK360 hb); have n2_ := am (below_step bz hb); have n3_ := am (hbox); have n4_ := am ((by rw [hg]; exact (below_size bz) : w.heap.size ≤ gb364)); have n5_ := am ((by rw [hg]; exact (below_size bz) : w.heap.size ≤ gb364)); have n6_ := am ((by rw [hg]; exact Nat.ne_of_lt (blk_lt (g := gb355) (o := .cells #[.int .u64 t351, .int .u64 t352, .bool t353] 35 (0, 0)) (bq BK355)) : gb355 ≠ gb364)); have n7_ := am ((by rw [hg]; exact Nat.ne_of_gt (blk_lt (g := gb355) (o := .cells #[.int .u64 t351, .int .u64 t352, .bool t353] 35 (0, 0)) (bq BK355)) : gb364 ≠ gb355)); have n8_ := am ((by rw [hg]; exact Nat.ne_of_lt (blk_lt (g := gb360) (o := .cells #[.int .u64 t356, .int .u64 t357, .bool t358] 35 (0, 0)) (bq BK360)) : gb360 ≠ gb364)); have n9_ := am ((by rw [hg]; exact Nat.ne_of_gt (blk_lt (g := gb360) (o := .cells #[.int .u64 t356, .int .u64 t357, .bool t358] 35 (0, 0)) (bq BK360)) : gb364 ≠ gb360)); clear BK355; clear BK360; clear HB; have BK355 := n0_; have BK360 := n1_; have HB := n2_; have BK364 := n3_; have GW364 := n4_; have GE364 := n5_; have NB355_364 := n6_; have NB364_355 := n7_; have NB360_364 := n8_; have NB364_360 := n9_; clear n0_ n1_ n2_ n3_ n4_ n5_ n6_ n7_ n8_ n9_; clear hb hbox hg; have hnb18 := NB364_355.out; have hnc18 := NB355_364.out; have hnb19 := NB364_360.out; have hnc19 := NB360_364.out; have hcz20_0 : w17.cell? ⟨gb364, 0, none⟩ = some (.int .u64 0) := (blk_cell BK364.out 0).trans rfl; have hcz20_1 : w17.cell? ⟨gb364, 1, none⟩ = some (.int .u64 0) := (blk_cell BK364.out 1).trans rfl; have hcz20_2 : w17.cell? ⟨gb364, 2, none⟩ = some (.bool false) := (blk_cell BK364.out 2).trans rfl; have hfz20_0 := blk_frozen BK364.out 0; have hfz20_1 := blk_frozen BK364.out 1; have hfz20_2 := blk_frozen BK364.out 2) | ((with_reducible refine gate_dst (N := 11) rfl ?_); refine box_event ?hg (N := 11) ?hd (cs := #[.int .u64 0, .int .u64 0, .bool false]) (t := 35) ?hr ?_; (case hd => rfl); (case hg => rfl); (case hr => first | (go_simp; done) | (go_simp; rfl)); intro gb365 hg w21 hbox hb; have n0_ := am (blk_below (g := gb355) (o := .cells #[.int .u64 t351, .int .u64 t352, .bool t353] 35 (0, 0)) (by (with_reducible repeat (first | apply bA | apply bB | apply bC)); refine blk_far ?_ NB355_364.out _; (with_reducible repeat (first | apply bA | apply bB | apply bC)); refine blk_far ?_ NB355_364.out _; (with_reducible repeat (first | apply bA | apply bB | apply bC)); refine blk_far ?_ NB355_364.out _; (with_reducible repeat (first | apply bA | apply bB | apply bC)); exact BK355.out) hb); have n1_ := am (blk_below (g := gb360) (o := .cells #[.int .u64 t356, .int .u64 t357, .bool t358] 35 (0, 0)) (by (with_reducible repeat (first | apply bA | apply bB | apply bC)); refine blk_far ?_ NB360_364.out _; (with_reducible repeat (first | apply bA | apply bB | apply bC)); refine blk_far ?_ NB360_364.out _; (with_reducible repeat (first | apply bA | apply bB | apply bC)); refine blk_far ?_ NB360_364.out _; (with_reducible repeat (first | apply bA | apply bB | apply bC)); exact BK360.out) hb); have n2_ := am (blk_below (g := gb364) (o := .cells #[.int .u64 t361, .int .u64 t362, .bool t363] 35 (0, 0)) (by (with_reducible repeat (first | apply bA | apply bB | apply bC)); refine blk_put (cs := #[.int .u64 t361, .int .u64 t362, .bool false]) ?_ 2 _ rfl; (with_reducible repeat (first | apply bA | apply bB | apply bC)); refine blk_put (cs := #[.int .u64 t361, .int .u64 0, .bool false]) ?_ 1 _ rfl; (with_reducible repeat (first | apply bA | apply bB | apply bC)); refine blk_put (cs := #[.int .u64 0, .int .u64 0, .bool false]) ?_ 0 _ rfl; (with_reducible repeat (first | apply bA | apply bB | apply bC)); exact BK364.out) hb); have n3_ := am (below_step bz hb); have n4_ := am (hbox); have n5_ := am ((by rw [hg]; exact (below_size bz) : w.heap.size ≤ gb365)); have n6_ := am ((by rw [hg]; exact (below_size bz) : w.heap.size ≤ gb365)); have n7_ := am ((by rw [hg]; exact Nat.ne_of_lt (blk_lt (g := gb355) (o := .cells #[.int .u64 t351, .int .u64 t352, .bool t353] 35 (0, 0)) (by (with_reducible repeat (first | apply bA | apply bB | apply bC)); refine blk_far ?_ NB355_364.out _; (with_reducible repeat (first | apply bA | apply bB | apply bC)); refine blk_far ?_ NB355_364.out _; (with_reducible repeat (first | apply bA | apply bB | apply bC)); refine blk_far ?_ NB355_364.out _; (with_reducible repeat (first | apply bA | apply bB | apply bC)); exact BK355.out)) : gb355 ≠ gb365)); have n8_ := am ((by rw [hg]; exact Nat.ne_of_gt (blk_lt (g := gb355) (o := .cells #[.int .u64 t351, .int .u64 t352, .bool t353] 35 (0, 0)) (by (with_reducible repeat (first | apply bA | apply bB | apply bC)); refine blk_far ?_ NB355_364.out _; (with_reducible repeat (first | apply bA | apply bB | apply bC)); refine blk_far ?_ NB355_364.out _; (with_reducible repeat (first | apply bA | apply bB | apply bC)); refine blk_far ?_ NB355_364.out _; (with_reducible repeat (first | apply bA | apply bB | apply bC)); exact BK355.out)) : gb365 ≠ gb355)); have n9_ := am ((by rw [hg]; exact Nat.ne_of_lt (blk_lt (g := gb360) (o := .cells #[.int .u64 t356, .int .u64 t357, .bool t358] 35 (0, 0)) (by (with_reducible repeat (first | apply bA | apply bB | apply bC)); refine blk_far ?_ NB360_364.out _; (with_reducible repeat (first | apply bA | apply bB | apply bC)); refine blk_far ?_ NB360_364.out _; (with_reducible repeat (first | apply bA | apply bB | apply bC)); refine blk_far ?_ NB360_364.out _; (with_reducible repeat (first | apply bA | apply bB | apply bC)); exact BK360.out)) : gb360 ≠ gb365)); have n10_ := am ((by rw [hg]; exact Nat.ne_of_gt (blk_lt (g := gb360) (o := .cells #[.int .u64 t356, .int .u64 t357, .bool t358] 35 (0, 0)) (by (with_reducible repeat (first | apply bA | apply bB | apply bC)); refine blk_far ?_ NB360_364.out _; (with_reducible repeat (first | apply bA | apply bB | apply bC)); refine blk_far ?_ NB360_364.out _; (with_reducible repeat (first | apply bA | apply bB | apply bC)); refine blk_far ?_ NB360_364.out _; (with_reducible repeat (first | apply bA | apply bB | apply bC)); exact BK360.out)) : gb365 ≠ gb360)); have n11_ := am ((by rw [hg]; exact Nat.ne_of_lt (blk_lt (g := gb364) (o := .cells #[.int .u64 t361, .int .u64 t362, .bool t363] 35 (0, 0)) (by (with_reducible repeat (first | apply bA | apply bB | apply bC)); refine blk_put (cs := #[.int .u64 t361, .int .u64 t362, .bool false]) ?_ 2 _ rfl; (with_reducible repeat (first | apply bA | apply bB | apply bC)); refine blk_put (cs := #[.int .u64 t361, .int .u64 0, .bool false]) ?_ 1 _ rfl; (with_reducible repeat (first | apply bA | apply bB | apply bC)); refine blk_put (cs := #[.int .u64 0, .int .u64 0, .bool false]) ?_ 0 _ rfl; (with_reducible repeat (first | apply bA | apply bB | apply bC)); exact BK364.out)) : gb364 ≠ gb365)); have n12_ := am ((by rw [hg]; exact Nat.ne_of_gt (blk_lt (g := gb364) (o := .cells #[.int .u64 t361, .int .u64 t362, .bool t363] 35 (0, 0)) (by (with_reducible repeat (first | apply bA | apply bB | apply bC)); refine blk_put (cs := #[.int .u64 t361, .int .u64 t362, .bool false]) ?_ 2 _ rfl; (with_reducible repeat (first | apply bA | apply bB | apply bC)); refine blk_put (cs := #[.int .u64 t361, .int .u64 0, .bool false]) ?_ 1 _ rfl; (with_reducible repeat (first | apply bA | apply bB | apply bC)); refine blk_put (cs := #[.int .u64 0, .int .u64 0, .bool false]) ?_ 0 _ rfl; (with_reducible repeat (first | apply bA | apply bB | apply bC)); exact BK364.out)) : gb365 ≠ gb364)); clear BK355; clear BK360; clear BK364; clear HB; have BK355 := n0_; have BK360 := n1_; have BK364 := n2_; have HB := n3_; have BK365 := n4_; have GW365 := n5_; have GE365 := n6_; have NB355_365 := n7_; have NB365_355 := n8_; have NB360_365 := n9_; have NB365_360 := n10_; have NB364_365 := n11_; have NB365_364 := n12_; clear n0_ n1_ n2_ n3_ n4_ n5_ n6_ n7_ n8_ n9_ n10_ n11_ n12_; clear hb hbox hg; have hnb22 := NB365_355.out; have hnc22 := NB355_365.out; have hnb23 := NB365_360.out; have hnc23 := NB360_365.out; have hnb24 := NB365_364.out; have hnc24 := NB364_365.out; have hcz25_0 : w21.cell? ⟨gb365, 0, none⟩ = some (.int .u64 0) := (blk_cell BK365.out 0).trans rfl; have hcz25_1 : w21.cell? ⟨gb365, 1, none⟩ = some (.int .u64 0) := (blk_cell BK365.out 1).trans rfl; have hcz25_2 : w21.cell? ⟨gb365, 2, none⟩ = some (.bool false) := (blk_cell BK365.out 2).trans rfl; have hfz25_0 := blk_frozen BK365.out 0; have hfz25_1 := blk_frozen BK365.out 1; have hfz25_2 := blk_frozen BK365.out 2; have hcz26_0 : w21.cell? ⟨gb360, 0, none⟩ = some (.int .u64 t356) := (blk_cell BK360.out 0).trans rfl; have hcz26_1 : w21.cell? ⟨gb360, 1, none⟩ = some (.int .u64 t357) := (blk_cell BK360.out 1).trans rfl; have hcz26_2 : w21.cell? ⟨gb360, 2, none⟩ = some (.bool t358) := (blk_cell BK360.out 2).trans rfl; have hfz26_0 := blk_frozen BK360.out 0; have hfz26_1 := blk_frozen BK360.out 1; have hfz26_2 := blk_frozen BK360.out 2))
   (try simp only [Act.put, List.setIfInBounds_toArray, List.set_cons_zero, List.set_cons_succ])
   go_cut [] (fun wc => ∃ (kq : Nat) (x366000_6 : Int) (x366001_6 : Int) (x366002_6 : Bool), Aside0 (tumblerref02_Ratio.j0 kq t354 t359 x366000_6 x366001_6 x366002_6 = some (r1, r2)) ∧ Aside0 (kq ≤ k) ∧ Aside0 (wc.heap[gb355]? = some (.cells #[.int .u64 t351, .int .u64 t352, .bool t353] 35 (0, 0))) ∧ Aside0 (wc.heap[gb360]? = some (.cells #[.int .u64 t356, .int .u64 t357, .bool t358] 35 (0, 0))) ∧ Aside0 (wc.heap[gb364]? = some (.cells #[.int .u64 t361, .int .u64 t362, .bool t363] 35 (0, 0))) ∧ Aside0 (wc.heap[gb365]? = some (.cells #[.int .u64 x366000_6, .int .u64 x366001_6, .bool x366002_6] 35 (0, 0))) ∧ Aside0 (Below w.heap.size w wc))
   case first =>
    have H := HC7.out; clear HC7
    by_cases c27 : t357 = 9223372036854775808
    · rw [if_pos c27] at H
      have c27b0 : (t357 == 9223372036854775808) = true := beq_iff_eq.mpr c27; have c27b1 : (t357 != 9223372036854775808) = false := bne_eq_false_iff_eq.mpr c27; clear c27
      (first | rw [c27b0] | (simp only [i64_w, i32_w]; rw [c27b0]) | skip)
      have H' := Aside0.mk H; clear H; have hnb28 := NB364_355.out; have hnc28 := NB355_364.out; have hnb29 := NB364_360.out; have hnc29 := NB360_364.out; have hnb30 := NB364_365.out; have hnc30 := NB365_364.out; have hcz31_0 : w21.cell? ⟨gb364, 0, none⟩ = some (.int .u64 t361) := (blk_cell BK364.out 0).trans rfl; have hcz31_1 : w21.cell? ⟨gb364, 1, none⟩ = some (.int .u64 t362) := (blk_cell BK364.out 1).trans rfl; have hcz31_2 : w21.cell? ⟨gb364, 2, none⟩ = some (.bool t363) := (blk_cell BK364.out 2).trans rfl; have hfz31_0 := blk_frozen BK364.out 0; have hfz31_1 := blk_frozen BK364.out 1; have hfz31_2 := blk_frozen BK364.out 2; have hnb32 := NB365_355.out; have hnc32 := NB355_365.out; have hnb33 := NB365_360.out; have hnc33 := NB360_365.out; have hcz34_0 : w21.cell? ⟨gb365, 0, none⟩ = some (.int .u64 0) := (blk_cell BK365.out 0).trans rfl; have hcz34_1 : w21.cell? ⟨gb365, 1, none⟩ = some (.int .u64 0) := (blk_cell BK365.out 1).trans rfl; have hcz34_2 : w21.cell? ⟨gb365, 2, none⟩ = some (.bool false) := (blk_cell BK365.out 2).trans rfl; have hfz34_0 := blk_frozen BK365.out 0; have hfz34_1 := blk_frozen BK365.out 1; have hfz34_2 := blk_frozen BK365.out 2
      go_wp2
      go_meet
      case rel => exact ⟨_, (0), (IntKind.u64.wrap ((IntKind.u64.wrap (t361 * 2)) + (t362 / 9223372036854775808))), (false), H', ⟨by first | omega | exact Nat.le_refl _⟩, ⟨by (with_reducible repeat (first | apply bA | apply bB | apply bC)); refine blk_far ?_ NB355_365.out _; (with_reducible repeat (first | apply bA | apply bB | apply bC)); refine blk_far ?_ NB355_365.out _; (with_reducible repeat (first | apply bA | apply bB | apply bC)); refine blk_far ?_ NB355_365.out _; (with_reducible repeat (first | apply bA | apply bB | apply bC)); refine blk_far ?_ NB355_365.out _; (with_reducible repeat (first | apply bA | apply bB | apply bC)); refine blk_far ?_ NB355_365.out _; (with_reducible repeat (first | apply bA | apply bB | apply bC)); refine blk_far ?_ NB355_365.out _; (with_reducible repeat (first | apply bA | apply bB | apply bC)); exact BK355.out⟩, ⟨by (with_reducible repeat (first | apply bA | apply bB | apply bC)); refine blk_far ?_ NB360_365.out _; (with_reducible repeat (first | apply bA | apply bB | apply bC)); refine blk_far ?_ NB360_365.out _; (with_reducible repeat (first | apply bA | apply bB | apply bC)); refine blk_far ?_ NB360_365.out _; (with_reducible repeat (first | apply bA | apply bB | apply bC)); refine blk_far ?_ NB360_365.out _; (with_reducible repeat (first | apply bA | apply bB | apply bC)); refine blk_far ?_ NB360_365.out _; (with_reducible repeat (first | apply bA | apply bB | apply bC)); refine blk_far ?_ NB360_365.out _; (with_reducible repeat (first | apply bA | apply bB | apply bC)); exact BK360.out⟩, ⟨by (with_reducible repeat (first | apply bA | apply bB | apply bC)); refine blk_far ?_ NB364_365.out _; (with_reducible repeat (first | apply bA | apply bB | apply bC)); refine blk_far ?_ NB364_365.out _; (with_reducible repeat (first | apply bA | apply bB | apply bC)); refine blk_far ?_ NB364_365.out _; (with_reducible repeat (first | apply bA | apply bB | apply bC)); refine blk_far ?_ NB364_365.out _; (with_reducible repeat (first | apply bA | apply bB | apply bC)); refine blk_far ?_ NB364_365.out _; (with_reducible repeat (first | apply bA | apply bB | apply bC)); refine blk_far ?_ NB364_365.out _; (with_reducible repeat (first | apply bA | apply bB | apply bC)); exact BK364.out⟩, ⟨by (with_reducible repeat (first | apply bA | apply bB | apply bC)); refine blk_put (cs := #[.int .u64 0, .int .u64 (IntKind.u64.wrap ((IntKind.u64.wrap (t361 * 2)) + (t362 / 9223372036854775808))), .bool false]) ?_ 2 _ rfl; (with_reducible repeat (first | apply bA | apply bB | apply bC)); refine blk_put (cs := #[.int .u64 0, .int .u64 0, .bool false]) ?_ 1 _ rfl; (with_reducible repeat (first | apply bA | apply bB | apply bC)); refine blk_put (cs := #[.int .u64 0, .int .u64 0, .bool false]) ?_ 0 _ rfl; (with_reducible repeat (first | apply bA | apply bB | apply bC)); refine blk_put (cs := #[.int .u64 0, .int .u64 0, .bool false]) ?_ 2 _ rfl; (with_reducible repeat (first | apply bA | apply bB | apply bC)); refine blk_put (cs := #[.int .u64 0, .int .u64 0, .bool false]) ?_ 1 _ rfl; (with_reducible repeat (first | apply bA | apply bB | apply bC)); refine blk_put (cs := #[.int .u64 0, .int .u64 0, .bool false]) ?_ 0 _ rfl; (with_reducible repeat (first | apply bA | apply bB | apply bC)); exact BK365.out⟩, ⟨by repeat (first | (with_reducible first | exact HB.out | apply dA | apply dB | apply dC | refine dE ?_ ‹_›) | exact HB.out)⟩⟩
    · rw [if_neg c27] at H
      have c27b0 : (t357 == 9223372036854775808) = false := beq_eq_false_iff_ne.mpr c27; have c27b1 : (t357 != 9223372036854775808) = true := bne_iff_ne.mpr c27
      (first | rw [c27b0] | (simp only [i64_w, i32_w]; rw [c27b0]) | skip)
      replace H := Option.bind_eq_some_iff.mp H
      obtain ⟨⟨t366, t367, t368, t369⟩, A350, H⟩ := H
      replace H : (tumblerref02_Ratio.j0 k t354 t359 t366 t367 t368) = some (r1, r2) := H
      have A35 := Aside0.mk A350; clear A350; have H' := Aside0.mk H; clear H; have hnb36 := NB364_355.out; have hnc36 := NB355_364.out; have hnb37 := NB364_360.out; have hnc37 := NB360_364.out; have hnb38 := NB364_365.out; have hnc38 := NB365_364.out; have hcz39_0 : w21.cell? ⟨gb364, 0, none⟩ = some (.int .u64 t361) := (blk_cell BK364.out 0).trans rfl; have hcz39_1 : w21.cell? ⟨gb364, 1, none⟩ = some (.int .u64 t362) := (blk_cell BK364.out 1).trans rfl; have hcz39_2 : w21.cell? ⟨gb364, 2, none⟩ = some (.bool t363) := (blk_cell BK364.out 2).trans rfl; have hfz39_0 := blk_frozen BK364.out 0; have hfz39_1 := blk_frozen BK364.out 1; have hfz39_2 := blk_frozen BK364.out 2; have hnb40 := NB360_355.out; have hnc40 := NB355_360.out; have hnb41 := NB360_365.out; have hnc41 := NB365_360.out; have hcz42_0 : w21.cell? ⟨gb360, 0, none⟩ = some (.int .u64 t356) := (blk_cell BK360.out 0).trans rfl; have hcz42_1 : w21.cell? ⟨gb360, 1, none⟩ = some (.int .u64 t357) := (blk_cell BK360.out 1).trans rfl; have hcz42_2 : w21.cell? ⟨gb360, 2, none⟩ = some (.bool t358) := (blk_cell BK360.out 2).trans rfl; have hfz42_0 := blk_frozen BK360.out 0; have hfz42_1 := blk_frozen BK360.out 1; have hfz42_2 := blk_frozen BK360.out 2
      go_wp2_with (first | ((with_reducible refine gate_callee (f := 33) rfl ?_); refine goesL_ (some 44) rfl rfl Try.func33 (by kernel_rfl) rfl #[.agg #[.int .u64 t361, .int .u64 t362, .bool t363], .int .u64 t357] rfl (by (try simp only [List.map_toArray, List.map_cons, List.map_nil]); first | done | rfl | (simp only [List.length_drop, List.length_take]; rfl)) ?_; (with_reducible refine (tumblerref02_By.calls k t361 t362 t363 t357 t366 t367 t368 t369 _ A35.out).mono ?_); rintro e w43 ⟨rfl, hb⟩; refine ⟨_, rfl, ?_⟩; have n0_ := am (blk_below (g := gb355) (o := .cells #[.int .u64 t351, .int .u64 t352, .bool t353] 35 (0, 0)) (by (with_reducible repeat (first | apply bA | apply bB | apply bC)); refine blk_far ?_ NB355_365.out _; (with_reducible repeat (first | apply bA | apply bB | apply bC)); refine blk_far ?_ NB355_365.out _; (with_reducible repeat (first | apply bA | apply bB | apply bC)); refine blk_far ?_ NB355_365.out _; (with_reducible repeat (first | apply bA | apply bB | apply bC)); exact BK355.out) hb); have n1_ := am (blk_below (g := gb360) (o := .cells #[.int .u64 t356, .int .u64 t357, .bool t358] 35 (0, 0)) (by (with_reducible repeat (first | apply bA | apply bB | apply bC)); refine blk_far ?_ NB360_365.out _; (with_reducible repeat (first | apply bA | apply bB | apply bC)); refine blk_far ?_ NB360_365.out _; (with_reducible repeat (first | apply bA | apply bB | apply bC)); refine blk_far ?_ NB360_365.out _; (with_reducible repeat (first | apply bA | apply bB | apply bC)); exact BK360.out) hb); have n2_ := am (blk_below (g := gb364) (o := .cells #[.int .u64 t361, .int .u64 t362, .bool t363] 35 (0, 0)) (by (with_reducible repeat (first | apply bA | apply bB | apply bC)); refine blk_far ?_ NB364_365.out _; (with_reducible repeat (first | apply bA | apply bB | apply bC)); refine blk_far ?_ NB364_365.out _; (with_reducible repeat (first | apply bA | apply bB | apply bC)); refine blk_far ?_ NB364_365.out _; (with_reducible repeat (first | apply bA | apply bB | apply bC)); exact BK364.out) hb); have n3_ := am (blk_below (g := gb365) (o := .cells #[.int .u64 0, .int .u64 0, .bool false] 35 (0, 0)) (by (with_reducible repeat (first | apply bA | apply bB | apply bC)); refine blk_put (cs := #[.int .u64 0, .int .u64 0, .bool false]) ?_ 2 _ rfl; (with_reducible repeat (first | apply bA | apply bB | apply bC)); refine blk_put (cs := #[.int .u64 0, .int .u64 0, .bool false]) ?_ 1 _ rfl; (with_reducible repeat (first | apply bA | apply bB | apply bC)); refine blk_put (cs := #[.int .u64 0, .int .u64 0, .bool false]) ?_ 0 _ rfl; (with_reducible repeat (first | apply bA | apply bB | apply bC)); exact BK365.out) hb); have n4_ := am (below_step bz hb); clear BK355; clear BK360; clear BK364; clear BK365; clear HB; have BK355 := n0_; have BK360 := n1_; have BK364 := n2_; have BK365 := n3_; have HB := n4_; clear n0_ n1_ n2_ n3_ n4_; (try clear hb); (try clear hb2); (try clear hk); (try clear hi); have hnb44 := NB365_355.out; have hnc44 := NB355_365.out; have hcz45_0 : w43.cell? ⟨gb365, 0, none⟩ = some (.int .u64 0) := (blk_cell BK365.out 0).trans rfl; have hcz45_1 : w43.cell? ⟨gb365, 1, none⟩ = some (.int .u64 0) := (blk_cell BK365.out 1).trans rfl; have hcz45_2 : w43.cell? ⟨gb365, 2, none⟩ = some (.bool false) := (blk_cell BK365.out 2).trans rfl; have hfz45_0 := blk_frozen BK365.out 0; have hfz45_1 := blk_frozen BK365.out 1; have hfz45_2 := blk_frozen BK365.out 2))
      go_meet
      case rel => exact ⟨_, (t366), (t367), (t368), H', ⟨by first | omega | exact Nat.le_refl _⟩, ⟨by (with_reducible repeat (first | apply bA | apply bB | apply bC)); refine blk_far ?_ NB355_365.out _; (with_reducible repeat (first | apply bA | apply bB | apply bC)); refine blk_far ?_ NB355_365.out _; (with_reducible repeat (first | apply bA | apply bB | apply bC)); refine blk_far ?_ NB355_365.out _; (with_reducible repeat (first | apply bA | apply bB | apply bC)); exact BK355.out⟩, ⟨by (with_reducible repeat (first | apply bA | apply bB | apply bC)); refine blk_far ?_ NB360_365.out _; (with_reducible repeat (first | apply bA | apply bB | apply bC)); refine blk_far ?_ NB360_365.out _; (with_reducible repeat (first | apply bA | apply bB | apply bC)); refine blk_far ?_ NB360_365.out _; (with_reducible repeat (first | apply bA | apply bB | apply bC)); exact BK360.out⟩, ⟨by (with_reducible repeat (first | apply bA | apply bB | apply bC)); refine blk_far ?_ NB364_365.out _; (with_reducible repeat (first | apply bA | apply bB | apply bC)); refine blk_far ?_ NB364_365.out _; (with_reducible repeat (first | apply bA | apply bB | apply bC)); refine blk_far ?_ NB364_365.out _; (with_reducible repeat (first | apply bA | apply bB | apply bC)); exact BK364.out⟩, ⟨by (with_reducible repeat (first | apply bA | apply bB | apply bC)); refine blk_put (cs := #[.int .u64 t366, .int .u64 t367, .bool false]) ?_ 2 _ rfl; (with_reducible repeat (first | apply bA | apply bB | apply bC)); refine blk_put (cs := #[.int .u64 t366, .int .u64 0, .bool false]) ?_ 1 _ rfl; (with_reducible repeat (first | apply bA | apply bB | apply bC)); refine blk_put (cs := #[.int .u64 0, .int .u64 0, .bool false]) ?_ 0 _ rfl; (with_reducible repeat (first | apply bA | apply bB | apply bC)); exact BK365.out⟩, ⟨by repeat (first | (with_reducible first | exact HB.out | apply dA | apply dB | apply dC | refine dE ?_ ‹_›) | exact HB.out)⟩⟩
   case rest =>
    clear HC7
    try clear c1
    try clear c2
    try clear p2
    try clear c3
    try clear c3b0
    try clear c3b1
    try clear c4
    try clear c13
    try clear c18
    try clear c19
    try clear c22
    try clear c23
    try clear c24
    try clear c25
    try clear c27
    try clear c27b0
    try clear c27b1
    try clear c28
    try clear c29
    try clear c30
    try clear c32
    try clear c33
    try clear c36
    try clear c37
    try clear c38
    try clear c40
    try clear c41
    try clear c44
    try clear hcz10_0
    try clear hcz10_1
    try clear hcz10_2
    try clear hcz14_0
    try clear hcz14_1
    try clear hcz14_2
    try clear hcz15_0
    try clear hcz15_1
    try clear hcz15_2
    try clear hcz20_0
    try clear hcz20_1
    try clear hcz20_2
    try clear hcz25_0
    try clear hcz25_1
    try clear hcz25_2
    try clear hcz26_0
    try clear hcz26_1
    try clear hcz26_2
    try clear hcz31_0
    try clear hcz31_1
    try clear hcz31_2
    try clear hcz34_0
    try clear hcz34_1
    try clear hcz34_2
    try clear hcz39_0
    try clear hcz39_1
    try clear hcz39_2
    try clear hcz42_0
    try clear hcz42_1
    try clear hcz42_2
    try clear hcz45_0
    try clear hcz45_1
    try clear hcz45_2
    try clear hfz10_0
    try clear hfz10_1
    try clear hfz10_2
    try clear hfz14_0
    try clear hfz14_1
    try clear hfz14_2
    try clear hfz15_0
    try clear hfz15_1
    try clear hfz15_2
    try clear hfz20_0
    try clear hfz20_1
    try clear hfz20_2
    try clear hfz25_0
    try clear hfz25_1
    try clear hfz25_2
    try clear hfz26_0
    try clear hfz26_1
    try clear hfz26_2
    try clear hfz31_0
    try clear hfz31_1
    try clear hfz31_2
    try clear hfz34_0
    try clear hfz34_1
    try clear hfz34_2
    try clear hfz39_0
    try clear hfz39_1
    try clear hfz39_2
    try clear hfz42_0
    try clear hfz42_1
    try clear hfz42_2
    try clear hfz45_0
    try clear hfz45_1
    try clear hfz45_2
    obtain ⟨kq, x366000_6, x366001_6, x366002_6, HA, HJ6, BK355, BK360, BK364, BK365, HB⟩ := hcut
    cases kq with
    | zero => exact absurd HA.out (by simp [tumblerref02_Ratio.j0])
    | succ kj6 =>
     have H := HA.out; clear HA
     simp only [tumblerref02_Ratio.j0] at H
     replace H := Option.bind_eq_some_iff.mp H
     obtain ⟨⟨t370, t371⟩, A460, H⟩ := H
     replace H : (if t371 = true then (some (t370, 0)) else (some (0, 10))) = some (r1, r2) := H
     have A46 := Aside0.mk A460; clear A460
     by_cases c47 : t371 = true
     · subst c47
       have H1 : (some (t370, 0)) = some (r1, r2) := by rw [if_pos rfl] at H; exact H
       clear H; have H := H1; clear H1
       simp only [Option.some.injEq, Prod.mk.injEq] at H
       obtain ⟨rfl, rfl⟩ := H
       have hnb48 := NB365_355.out; have hnc48 := NB355_365.out; have hnb49 := NB365_360.out; have hnc49 := NB360_365.out; have hnb50 := NB365_364.out; have hnc50 := NB364_365.out; have hcz51_0 : wc.cell? ⟨gb365, 0, none⟩ = some (.int .u64 x366000_6) := (blk_cell BK365.out 0).trans rfl; have hcz51_1 : wc.cell? ⟨gb365, 1, none⟩ = some (.int .u64 x366001_6) := (blk_cell BK365.out 1).trans rfl; have hcz51_2 : wc.cell? ⟨gb365, 2, none⟩ = some (.bool x366002_6) := (blk_cell BK365.out 2).trans rfl; have hfz51_0 := blk_frozen BK365.out 0; have hfz51_1 := blk_frozen BK365.out 1; have hfz51_2 := blk_frozen BK365.out 2
       go_wp2_with (first | ((with_reducible refine gate_callee (f := 30) rfl ?_); refine goesL_ (some 52) rfl rfl Try.func30 (by kernel_rfl) rfl #[.agg #[.int .u64 x366000_6, .int .u64 x366001_6, .bool x366002_6], .bool (t354 != t359)] rfl (by (try simp only [List.map_toArray, List.map_cons, List.map_nil]); first | done | rfl | (simp only [List.length_drop, List.length_take]; rfl)) ?_; (with_reducible refine (tumblerref02_Small.calls kj6 x366000_6 x366001_6 x366002_6 (t354 != t359) t370 true _ A46.out).mono ?_); rintro e w52 ⟨rfl, hb⟩; refine ⟨_, rfl, ?_⟩; have n0_ := am (bb BK355 hb); have n1_ := am (bb BK360 hb); have n2_ := am (bb BK364 hb); have n3_ := am (bb BK365 hb); have n4_ := am (below_step bz hb); clear BK355; clear BK360; clear BK364; clear BK365; clear HB; have BK355 := n0_; have BK360 := n1_; have BK364 := n2_; have BK365 := n3_; have HB := n4_; clear n0_ n1_ n2_ n3_ n4_; (try clear hb); (try clear hb2); (try clear hk); (try clear hi)))
       go_ret2
       exact ⟨by first | rfl | (simp [errW_none, errW_some] <;> rfl) | (simp [*, errW_none, errW_some] <;> rfl), by repeat (first | (with_reducible first | exact HB.out | apply dA | apply dB | apply dC | refine dE ?_ ‹_›) | exact HB.out)⟩
     · replace c47 := Bool.eq_false_iff.mpr c47
       subst c47
       have H1 : (some (0, 10)) = some (r1, r2) := by rw [if_neg (show ¬ (false = true) by decide)] at H; exact H
       clear H; have H := H1; clear H1
       simp only [Option.some.injEq, Prod.mk.injEq] at H
       obtain ⟨rfl, rfl⟩ := H
       have hnb53 := NB365_355.out; have hnc53 := NB355_365.out; have hnb54 := NB365_360.out; have hnc54 := NB360_365.out; have hnb55 := NB365_364.out; have hnc55 := NB364_365.out; have hcz56_0 : wc.cell? ⟨gb365, 0, none⟩ = some (.int .u64 x366000_6) := (blk_cell BK365.out 0).trans rfl; have hcz56_1 : wc.cell? ⟨gb365, 1, none⟩ = some (.int .u64 x366001_6) := (blk_cell BK365.out 1).trans rfl; have hcz56_2 : wc.cell? ⟨gb365, 2, none⟩ = some (.bool x366002_6) := (blk_cell BK365.out 2).trans rfl; have hfz56_0 := blk_frozen BK365.out 0; have hfz56_1 := blk_frozen BK365.out 1; have hfz56_2 := blk_frozen BK365.out 2
       go_wp2_with (first | ((with_reducible refine gate_callee (f := 30) rfl ?_); refine goesL_ (some 52) rfl rfl Try.func30 (by kernel_rfl) rfl #[.agg #[.int .u64 x366000_6, .int .u64 x366001_6, .bool x366002_6], .bool (t354 != t359)] rfl (by (try simp only [List.map_toArray, List.map_cons, List.map_nil]); first | done | rfl | (simp only [List.length_drop, List.length_take]; rfl)) ?_; (with_reducible refine (tumblerref02_Small.calls kj6 x366000_6 x366001_6 x366002_6 (t354 != t359) t370 false _ A46.out).mono ?_); rintro e w57 ⟨rfl, hb⟩; refine ⟨_, rfl, ?_⟩; have n0_ := am (bb BK355 hb); have n1_ := am (bb BK360 hb); have n2_ := am (bb BK364 hb); have n3_ := am (bb BK365 hb); have n4_ := am (below_step bz hb); clear BK355; clear BK360; clear BK364; clear BK365; clear HB; have BK355 := n0_; have BK360 := n1_; have BK364 := n2_; have BK365 := n3_; have HB := n4_; clear n0_ n1_ n2_ n3_ n4_; (try clear hb); (try clear hb2); (try clear hk); (try clear hi)))
       go_ret2
       exact ⟨by first | rfl | (simp [errW_none, errW_some] <;> rfl) | (simp [*, errW_none, errW_some] <;> rfl), by repeat (first | (with_reducible first | exact HB.out | apply dA | apply dB | apply dC | refine dE ?_ ‹_›) | exact HB.out)⟩

end Go.Proofs.Ytifhebempfjcmaa.P
