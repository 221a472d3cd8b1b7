-- Printed by this session's own pp.py (wip/tool) out of the translation.
import Derived.Test.YtifhebempfjcmaaPx0
import Derived.Test.YtifhebempfjcmaaPxf30
import Derived.Test.YtifhebempfjcmaaPxf33
import Derived.Test.YtifhebempfjcmaaPxf18
import Derived.Test.YtifhebempfjcmaaPxf28
import Derived.Test.YtifhebempfjcmaaPxf40
namespace Go.Proofs.Ytifhebempfjcmaa.P
open Go.RowKit Go.Proofs.YtifhebempfjcmaaW.PrintWords Go.Proofs.YtifhebempfjcmaaW.PrintLast Go.Proofs.YtifhebempfjcmaaW.PrintMore Go.Proofs.Ytifhebempfjcmaa.Mine
attribute [local go_sem] ext45 ext46
attribute [local go_sem] max2_int min2_int max_two min_two max_three min_three max_four min_four   -- for this text's walks alone
set_option linter.unusedVariables false
set_option linter.unusedSimpArgs false

/-! ### tumblerref02_Scale: function 27 -/
def tumblerref02_Scale.j0 : Nat → Int → Int → Bool → Option (Int × Int)
 | 0, _, _, _ => none
 | k + 1, x0, x1, x17 => if x17 = true then (some (0, 23)) else ((tumblerref02_far.f x0).bind fun t390 => (if t390 = true then (some (0, 22)) else ((tumblerref02_Of.f x0).bind fun bt391 => ((tumblerref02_Times.f k bt391.1 bt391.2.1 bt391.2.2.1 1000000).bind fun bt396 => ((tumblerref02_By.f k bt396.1 bt396.2.1 bt396.2.2 (IntKind.u64.wrap (x1))).bind fun bt399 => ((tumblerref02_Small.f k bt399.1 bt399.2.1 bt399.2.2.1 bt391.2.2.2).bind fun bt404 => (some (bt404.1, 0))))))))
def tumblerref02_Scale.f (k : Nat) (a0 : Int) (a1 : Int) : Option (Int × Int) := if a1 < 1000 then (tumblerref02_Scale.j0 k a0 a1 true) else (tumblerref02_Scale.j0 k a0 a1 (decide (a1 > 1000000)))
theorem tumblerref02_Scale.mono_l : ∀ k, (∀ y0 y1 y2, LeO (tumblerref02_Scale.j0 k y0 y1 y2) (tumblerref02_Scale.j0 (k + 1) y0 y1 y2))
 | 0 => fun _ _ _ r h => by simp [tumblerref02_Scale.j0] at h
 | k + 1 => by
  have ih0 := tumblerref02_Scale.mono_l k
  · intro y0 y1 y2
    unfold tumblerref02_Scale.j0
    repeat' first
    | (with_reducible exact ih0 _ _ _)
    | (with_reducible exact tumblerref02_By.mono _ _ _ _ _)
    | (with_reducible exact tumblerref02_Small.mono _ _ _ _ _)
    | (with_reducible exact tumblerref02_Times.mono _ _ _ _ _)
    | (with_reducible exact LeO.refl _)
    | (with_reducible exact LeO.none _)
    | (with_reducible refine LeO.ite ?_ ?_)
    | (with_reducible refine LeO.bind ?_ (fun _ => ?_))
    | exact ih0 _ _ _
    | exact tumblerref02_By.mono _ _ _ _ _
    | exact tumblerref02_Small.mono _ _ _ _ _
    | exact tumblerref02_Times.mono _ _ _ _ _
    | exact LeO.none _
    | refine LeO.ite ?_ ?_
    | refine LeO.bind ?_ (fun _ => ?_)
theorem tumblerref02_Scale.mono : ∀ a0 a1 k, LeO (tumblerref02_Scale.f k a0 a1) (tumblerref02_Scale.f (k + 1) a0 a1) := by
 intro a0 a1 k; have ih0 := tumblerref02_Scale.mono_l k
 unfold tumblerref02_Scale.f
 repeat' first
  | (with_reducible exact ih0 _ _ _)
  | (with_reducible exact tumblerref02_By.mono _ _ _ _ _)
  | (with_reducible exact tumblerref02_Small.mono _ _ _ _ _)
  | (with_reducible exact tumblerref02_Times.mono _ _ _ _ _)
  | (with_reducible exact LeO.refl _)
  | (with_reducible exact LeO.none _)
  | (with_reducible refine LeO.ite ?_ ?_)
  | (with_reducible refine LeO.bind ?_ (fun _ => ?_))
  | exact ih0 _ _ _
  | exact tumblerref02_By.mono _ _ _ _ _
  | exact tumblerref02_Small.mono _ _ _ _ _
  | exact tumblerref02_Times.mono _ _ _ _ _
  | exact LeO.none _
  | refine LeO.ite ?_ ?_
  | refine LeO.bind ?_ (fun _ => ?_)
set_option maxHeartbeats 8000000 in
set_option maxRecDepth 100000 in
theorem tumblerref02_Scale.calls (k : Nat) (a0 : Int) (a1 : Int) (r1 : Int) (r2 : Int) (w : World) (h : tumblerref02_Scale.f k a0 a1 = some (r1, r2)) :
 Calls Try.prog 27 #[.int .i64 a0, .int .i64 a1] w fun e w' => e = .returned (.tuple #[.int .i64 r1, .int .i64 r2]) ∧ Below w.heap.size w w' := by
 have hu35 := Try.underlying35; have HB := am (Below.refl w.heap.size w); have H : (if a1 < 1000 then (tumblerref02_Scale.j0 k a0 a1 true) else (tumblerref02_Scale.j0 k a0 a1 (decide (a1 > 1000000)))) = some (r1, r2) := h; clear h; have HC3 := Aside0.mk H; clear H
 go_enter Try.func27, Try.ntmps27
 go_upto_region 1 with (fail)
 go_cut [17] (fun v17 wc => ∃ (kq : Nat) (x17_2 : Bool), v17 = .bool x17_2 ∧ Aside0 (tumblerref02_Scale.j0 kq a0 a1 x17_2 = some (r1, r2)) ∧ Aside0 (kq ≤ k) ∧ Aside0 (Below w.heap.size w wc))
 case first =>
  have H := HC3.out; clear HC3
  by_cases c4 : a1 < 1000
  · rw [if_pos c4] at H
    have c4b0 : decide (a1 < 1000) = true := decide_eq_true c4; clear c4
    (first | rw [c4b0] | (simp only [i64_w, i32_w]; rw [c4b0]) | skip)
    have H' := Aside0.mk H; clear H
    go_wp2
    go_meet
    case rel => exact ⟨_, (true), (by first | rfl | (simp; done) | (simp [*]; done)), H', ⟨by first | omega | exact Nat.le_refl _⟩, ⟨by repeat (first | (with_reducible first | exact HB.out | apply dA | apply dB | apply dC) | exact HB.out)⟩⟩
  · rw [if_neg c4] at H
    have c4b0 : decide (a1 < 1000) = false := decide_eq_false c4; clear c4
    (first | rw [c4b0] | (simp only [i64_w, i32_w]; rw [c4b0]) | skip)
    have H' := Aside0.mk H; clear H
    go_wp2
    go_meet
    case rel => exact ⟨_, (decide (a1 > 1000000)), (by first | rfl | (simp; done) | (simp [*]; done)), H', ⟨by first | omega | exact Nat.le_refl _⟩, ⟨by repeat (first | (with_reducible first | exact HB.out | apply dA | apply dB | apply dC) | exact HB.out)⟩⟩
 case rest =>
  clear HC3
  try clear c2
  try clear p2
  try clear c4
  try clear c4b0
  obtain ⟨kq, x17_2, rfl, HA, HJ2, HB⟩ := hcut
  cases kq with
  | zero => exact absurd HA.out (by simp [tumblerref02_Scale.j0])
  | succ kj2 =>
   have H := HA.out; clear HA
   simp only [tumblerref02_Scale.j0] at H
   by_cases c5 : x17_2 = true
   · subst c5
     have H1 : (some (0, 23)) = some (r1, r2) := by rw [if_pos rfl] at H; exact H
     clear H; have H := H1; clear H1
     simp only [Option.some.injEq, Prod.mk.injEq] at H
     obtain ⟨rfl, rfl⟩ := H
     go_wp2
     go_ret2
     exact ⟨by first | rfl | (simp [errW_none, errW_some] <;> rfl) | (simp [*, errW_none, errW_some] <;> rfl), by repeat (first | (with_reducible first | exact HB.out | apply dA | apply dB | apply dC) | exact HB.out)⟩
   · replace c5 := Bool.eq_false_iff.mpr c5
     subst c5
     have H1 : ((tumblerref02_far.f a0).bind fun t390 => (if t390 = true then (some (0, 22)) else ((tumblerref02_Of.f a0).bind fun bt391 => ((tumblerref02_Times.f kj2 bt391.1 bt391.2.1 bt391.2.2.1 1000000).bind fun bt396 => ((tumblerref02_By.f kj2 bt396.1 bt396.2.1 bt396.2.2 (IntKind.u64.wrap (a1))).bind fun bt399 => ((tumblerref02_Small.f kj2 bt399.1 bt399.2.1 bt399.2.2.1 bt391.2.2.2).bind fun bt404 => (some (bt404.1, 0)))))))) = some (r1, r2) := by rw [if_neg (show ¬ (false = true) by decide)] at H; exact H
     clear H; have H := H1; clear H1
     replace H := Option.bind_eq_some_iff.mp H
     obtain ⟨t390, A60, H⟩ := H
     replace H : (if t390 = true then (some (0, 22)) else ((tumblerref02_Of.f a0).bind fun bt391 => ((tumblerref02_Times.f kj2 bt391.1 bt391.2.1 bt391.2.2.1 1000000).bind fun bt396 => ((tumblerref02_By.f kj2 bt396.1 bt396.2.1 bt396.2.2 (IntKind.u64.wrap (a1))).bind fun bt399 => ((tumblerref02_Small.f kj2 bt399.1 bt399.2.1 bt399.2.2.1 bt391.2.2.2).bind fun bt404 => (some (bt404.1, 0))))))) = some (r1, r2) := H
     have A6 := Aside0.mk A60; clear A60
     by_cases c7 : t390 = true
     · subst c7
       have H1 : (some (0, 22)) = some (r1, r2) := by rw [if_pos rfl] at H; exact H
       clear H; have H := H1; clear H1
       simp only [Option.some.injEq, Prod.mk.injEq] at H
       obtain ⟨rfl, rfl⟩ := H
       go_wp2_with (first | ((with_reducible refine gate_callee (f := 40) rfl ?_); refine goesL_ (some 19) rfl rfl Try.func40 (by kernel_rfl) rfl #[.int .i64 a0] rfl (by (try simp only [List.map_toArray, List.map_cons, List.map_nil]); first | done | rfl | (simp only [List.length_drop, List.length_take]; rfl)) ?_; (with_reducible refine (tumblerref02_far.calls a0 true _ A6.out).mono ?_); rintro e w' ⟨rfl, ⟨nd, rfl⟩⟩; refine ⟨_, rfl, ?_⟩))
       go_ret2
       exact ⟨by first | rfl | (simp [errW_none, errW_some] <;> rfl) | (simp [*, errW_none, errW_some] <;> rfl), by repeat (first | (with_reducible first | exact HB.out | apply dA | apply dB | apply dC) | exact HB.out)⟩
     · replace c7 := Bool.eq_false_iff.mpr c7
       subst c7
       have H1 : ((tumblerref02_Of.f a0).bind fun bt391 => ((tumblerref02_Times.f kj2 bt391.1 bt391.2.1 bt391.2.2.1 1000000).bind fun bt396 => ((tumblerref02_By.f kj2 bt396.1 bt396.2.1 bt396.2.2 (IntKind.u64.wrap (a1))).bind fun bt399 => ((tumblerref02_Small.f kj2 bt399.1 bt399.2.1 bt399.2.2.1 bt391.2.2.2).bind fun bt404 => (some (bt404.1, 0)))))) = some (r1, r2) := by rw [if_neg (show ¬ (false = true) by decide)] at H; exact H
       clear H; have H := H1; clear H1
       replace H := Option.bind_eq_some_iff.mp H
       obtain ⟨⟨t391, t392, t393, t394⟩, A80, H⟩ := H
       replace H : ((tumblerref02_Times.f kj2 t391 t392 t393 1000000).bind fun bt396 => ((tumblerref02_By.f kj2 bt396.1 bt396.2.1 bt396.2.2 (IntKind.u64.wrap (a1))).bind fun bt399 => ((tumblerref02_Small.f kj2 bt399.1 bt399.2.1 bt399.2.2.1 t394).bind fun bt404 => (some (bt404.1, 0))))) = some (r1, r2) := H
       have A8 := Aside0.mk A80; clear A80
       replace H := Option.bind_eq_some_iff.mp H
       obtain ⟨⟨t396, t397, t398⟩, A90, H⟩ := H
       replace H : ((tumblerref02_By.f kj2 t396 t397 t398 (IntKind.u64.wrap (a1))).bind fun bt399 => ((tumblerref02_Small.f kj2 bt399.1 bt399.2.1 bt399.2.2.1 t394).bind fun bt404 => (some (bt404.1, 0)))) = some (r1, r2) := H
       have A9 := Aside0.mk A90; clear A90
       replace H := Option.bind_eq_some_iff.mp H
       obtain ⟨⟨t399, t400, t401, t402⟩, A100, H⟩ := H
       replace H : ((tumblerref02_Small.f kj2 t399 t400 t401 t394).bind fun bt404 => (some (bt404.1, 0))) = some (r1, r2) := H
       have A10 := Aside0.mk A100; clear A100
       replace H := Option.bind_eq_some_iff.mp H
       obtain ⟨⟨t404, t405⟩, A110, H⟩ := H
       replace H : (some (t404, 0)) = some (r1, r2) := H
       have A11 := Aside0.mk A110; clear A110
       simp only [Option.some.injEq, Prod.mk.injEq] at H
       obtain ⟨rfl, rfl⟩ := H
       go_wp2_with (first | ((with_reducible refine gate_callee (f := 40) rfl ?_); refine goesL_ (some 19) rfl rfl Try.func40 (by kernel_rfl) rfl #[.int .i64 a0] rfl (by (try simp only [List.map_toArray, List.map_cons, List.map_nil]); first | done | rfl | (simp only [List.length_drop, List.length_take]; rfl)) ?_; (with_reducible refine (tumblerref02_far.calls a0 false _ A6.out).mono ?_); rintro e w' ⟨rfl, ⟨nd, rfl⟩⟩; refine ⟨_, rfl, ?_⟩; (try (rw [drewN_self wc]; generalize hq_ : World.drewN wc _ = wc; have n0_ : Aside0 (Below w.heap.size w wc) := ⟨by rw [← hq_]; exact (by repeat (first | (with_reducible first | exact HB.out | apply dA | apply dB | apply dC) | exact HB.out))⟩; clear HB hq_; have HB := n0_; clear n0_))) | ((with_reducible refine gate_callee (f := 28) rfl ?_); refine goesL_ (some 22) rfl rfl Try.func28 (by kernel_rfl) rfl #[.int .i64 a0] rfl (by (try simp only [List.map_toArray, List.map_cons, List.map_nil]); first | done | rfl | (simp only [List.length_drop, List.length_take]; rfl)) ?_; (with_reducible refine (tumblerref02_Of.calls a0 t391 t392 t393 t394 _ A8.out).mono ?_); rintro e w12 ⟨rfl, hb⟩; refine ⟨_, rfl, ?_⟩; have n0_ := am (below_step (by repeat (first | (with_reducible first | exact HB.out | apply dA | apply dB | apply dC) | exact HB.out)) hb); clear HB; have HB := n0_; clear n0_; (try clear hb); (try clear hb2); (try clear hk); (try clear hi)) | ((with_reducible refine gate_dst (N := 6) rfl ?_); refine box_event ?hg (N := 6) ?hd (cs := #[.int .u64 0, .int .u64 0, .bool false]) (t := 35) ?hr ?_; (case hd => rfl); (case hg => rfl); (case hr => first | (go_simp; done) | (go_simp; rfl)); intro gb395 hg w13 hbox hb; have n0_ := am (below_step (by repeat (first | (with_reducible first | exact HB.out | apply dA | apply dB | apply dC) | exact HB.out)) hb); have n1_ := am (hbox); have n2_ := am ((by rw [hg]; exact (below_size (by repeat (first | (with_reducible first | exact HB.out | apply dA | apply dB | apply dC) | exact HB.out))) : w.heap.size ≤ gb395)); have n3_ := am ((by rw [hg]; exact (below_size (by repeat (first | (with_reducible first | exact HB.out | apply dA | apply dB | apply dC) | exact HB.out))) : w.heap.size ≤ gb395)); clear HB; have HB := n0_; have BK395 := n1_; have GW395 := n2_; have GE395 := n3_; clear n0_ n1_ n2_ n3_; clear hb hbox hg; have hcz14_0 : w13.cell? ⟨gb395, 0, none⟩ = some (.int .u64 0) := (blk_cell BK395.out 0).trans rfl; have hcz14_1 : w13.cell? ⟨gb395, 1, none⟩ = some (.int .u64 0) := (blk_cell BK395.out 1).trans rfl; have hcz14_2 : w13.cell? ⟨gb395, 2, none⟩ = some (.bool false) := (blk_cell BK395.out 2).trans rfl; have hfz14_0 := blk_frozen BK395.out 0; have hfz14_1 := blk_frozen BK395.out 1; have hfz14_2 := blk_frozen BK395.out 2) | ((with_reducible refine gate_callee (f := 18) rfl ?_); refine goesL_ (some 27) rfl rfl Try.func18 (by kernel_rfl) rfl #[.agg #[.int .u64 t391, .int .u64 t392, .bool t393], .int .u64 1000000] rfl (by (try simp only [List.map_toArray, List.map_cons, List.map_nil]); first | done | rfl | (simp only [List.length_drop, List.length_take]; rfl)) ?_; (with_reducible refine (tumblerref02_Times.calls kj2 t391 t392 t393 1000000 t396 t397 t398 _ A9.out).mono ?_); rintro e w15 ⟨rfl, hb⟩; refine ⟨_, rfl, ?_⟩; have n0_ := am (blk_below (g := gb395) (o := .cells #[.int .u64 t391, .int .u64 t392, .bool t393] 35 (0, 0)) (by (with_reducible repeat (first | apply bA | apply bB | apply bC)); refine blk_put (cs := #[.int .u64 t391, .int .u64 t392, .bool false]) ?_ 2 _ rfl; (with_reducible repeat (first | apply bA | apply bB | apply bC)); refine blk_put (cs := #[.int .u64 t391, .int .u64 0, .bool false]) ?_ 1 _ rfl; (with_reducible repeat (first | apply bA | apply bB | apply bC)); refine blk_put (cs := #[.int .u64 0, .int .u64 0, .bool false]) ?_ 0 _ rfl; (with_reducible repeat (first | apply bA | apply bB | apply bC)); exact BK395.out) hb); have n1_ := am (below_step (by repeat (first | (with_reducible first | exact HB.out | apply dA | apply dB | apply dC | refine dE ?_ ‹_›) | exact HB.out)) hb); clear BK395; clear HB; have BK395 := n0_; have HB := n1_; clear n0_ n1_; (try clear hb); (try clear hb2); (try clear hk); (try clear hi)) | ((with_reducible refine gate_callee (f := 33) rfl ?_); refine goesL_ (some 30) rfl rfl Try.func33 (by kernel_rfl) rfl #[.agg #[.int .u64 t396, .int .u64 t397, .bool t398], .int .u64 (IntKind.u64.wrap (a1))] rfl (by (try simp only [List.map_toArray, List.map_cons, List.map_nil]); first | done | rfl | (simp only [List.length_drop, List.length_take]; rfl)) ?_; (with_reducible refine (tumblerref02_By.calls kj2 t396 t397 t398 (IntKind.u64.wrap (a1)) t399 t400 t401 t402 _ A10.out).mono ?_); rintro e w16 ⟨rfl, hb⟩; refine ⟨_, rfl, ?_⟩; have n0_ := am (blk_below (g := gb395) (o := .cells #[.int .u64 t391, .int .u64 t392, .bool t393] 35 (0, 0)) (by (with_reducible repeat (first | apply bA | apply bB | apply bC)); exact BK395.out) hb); have n1_ := am (below_step (by repeat (first | (with_reducible first | exact HB.out | apply dA | apply dB | apply dC | refine dE ?_ ‹_›) | exact HB.out)) hb); clear BK395; clear HB; have BK395 := n0_; have HB := n1_; clear n0_ n1_; (try clear hb); (try clear hb2); (try clear hk); (try clear hi)) | ((with_reducible refine gate_dst (N := 8) rfl ?_); refine box_event ?hg (N := 8) ?hd (cs := #[.int .u64 0, .int .u64 0, .bool false]) (t := 35) ?hr ?_; (case hd => rfl); (case hg => rfl); (case hr => first | (go_simp; done) | (go_simp; rfl)); intro gb403 hg w17 hbox hb; have n0_ := am (blk_below (g := gb395) (o := .cells #[.int .u64 t391, .int .u64 t392, .bool t393] 35 (0, 0)) (by (with_reducible repeat (first | apply bA | apply bB | apply bC)); exact BK395.out) hb); have n1_ := am (below_step (by repeat (first | (with_reducible first | exact HB.out | apply dA | apply dB | apply dC | refine dE ?_ ‹_›) | exact HB.out)) hb); have n2_ := am (hbox); have n3_ := am ((by rw [hg]; exact (below_size (by repeat (first | (with_reducible first | exact HB.out | apply dA | apply dB | apply dC | refine dE ?_ ‹_›) | exact HB.out))) : w.heap.size ≤ gb403)); have n4_ := am ((by rw [hg]; exact (below_size (by repeat (first | (with_reducible first | exact HB.out | apply dA | apply dB | apply dC | refine dE ?_ ‹_›) | exact HB.out))) : w.heap.size ≤ gb403)); have n5_ := am ((by rw [hg]; exact Nat.ne_of_lt (blk_lt (g := gb395) (o := .cells #[.int .u64 t391, .int .u64 t392, .bool t393] 35 (0, 0)) (by (with_reducible repeat (first | apply bA | apply bB | apply bC)); exact BK395.out)) : gb395 ≠ gb403)); have n6_ := am ((by rw [hg]; exact Nat.ne_of_gt (blk_lt (g := gb395) (o := .cells #[.int .u64 t391, .int .u64 t392, .bool t393] 35 (0, 0)) (by (with_reducible repeat (first | apply bA | apply bB | apply bC)); exact BK395.out)) : gb403 ≠ gb395)); clear BK395; clear HB; have BK395 := n0_; have HB := n1_; have BK403 := n2_; have GW403 := n3_; have GE403 := n4_; have NB395_403 := n5_; have NB403_395 := n6_; clear n0_ n1_ n2_ n3_ n4_ n5_ n6_; clear hb hbox hg; have hnb18 := NB403_395.out; have hnc18 := NB395_403.out; have hcz19_0 : w17.cell? ⟨gb403, 0, none⟩ = some (.int .u64 0) := (blk_cell BK403.out 0).trans rfl; have hcz19_1 : w17.cell? ⟨gb403, 1, none⟩ = some (.int .u64 0) := (blk_cell BK403.out 1).trans rfl; have hcz19_2 : w17.cell? ⟨gb403, 2, none⟩ = some (.bool false) := (blk_cell BK403.out 2).trans rfl; have hfz19_0 := blk_frozen BK403.out 0; have hfz19_1 := blk_frozen BK403.out 1; have hfz19_2 := blk_frozen BK403.out 2) | ((with_reducible refine gate_callee (f := 30) rfl ?_); refine goesL_ (some 36) rfl rfl Try.func30 (by kernel_rfl) rfl #[.agg #[.int .u64 t399, .int .u64 t400, .bool t401], .bool t394] rfl (by (try simp only [List.map_toArray, List.map_cons, List.map_nil]); first | done | rfl | (simp only [List.length_drop, List.length_take]; rfl)) ?_; (with_reducible refine (tumblerref02_Small.calls kj2 t399 t400 t401 t394 t404 t405 _ A11.out).mono ?_); rintro e w20 ⟨rfl, hb⟩; refine ⟨_, rfl, ?_⟩; have n0_ := am (blk_below (g := gb395) (o := .cells #[.int .u64 t391, .int .u64 t392, .bool t393] 35 (0, 0)) (by (with_reducible repeat (first | apply bA | apply bB | apply bC)); refine blk_far ?_ NB395_403.out _; (with_reducible repeat (first | apply bA | apply bB | apply bC)); refine blk_far ?_ NB395_403.out _; (with_reducible repeat (first | apply bA | apply bB | apply bC)); refine blk_far ?_ NB395_403.out _; (with_reducible repeat (first | apply bA | apply bB | apply bC)); exact BK395.out) hb); have n1_ := am (blk_below (g := gb403) (o := .cells #[.int .u64 t399, .int .u64 t400, .bool t401] 35 (0, 0)) (by (with_reducible repeat (first | apply bA | apply bB | apply bC)); refine blk_put (cs := #[.int .u64 t399, .int .u64 t400, .bool false]) ?_ 2 _ rfl; (with_reducible repeat (first | apply bA | apply bB | apply bC)); refine blk_put (cs := #[.int .u64 t399, .int .u64 0, .bool false]) ?_ 1 _ rfl; (with_reducible repeat (first | apply bA | apply bB | apply bC)); refine blk_put (cs := #[.int .u64 0, .int .u64 0, .bool false]) ?_ 0 _ rfl; (with_reducible repeat (first | apply bA | apply bB | apply bC)); exact BK403.out) hb); have n2_ := am (below_step (by repeat (first | (with_reducible first | exact HB.out | apply dA | apply dB | apply dC | refine dE ?_ ‹_›) | exact HB.out)) hb); clear BK395; clear BK403; clear HB; have BK395 := n0_; have BK403 := n1_; have HB := n2_; clear n0_ n1_ n2_; (try clear hb); (try clear hb2); (try clear hk); (try clear hi)))
       go_ret2
       exact ⟨by first | rfl | (simp [errW_none, errW_some] <;> rfl) | (simp [*, errW_none, errW_some] <;> rfl), by repeat (first | (with_reducible first | exact HB.out | apply dA | apply dB | apply dC | refine dE ?_ ‹_›) | exact HB.out)⟩

end Go.Proofs.Ytifhebempfjcmaa.P
