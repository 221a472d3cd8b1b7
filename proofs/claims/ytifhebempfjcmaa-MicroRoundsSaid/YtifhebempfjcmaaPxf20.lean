-- Printed by this session's own pp.py (wip/tool) out of the translation.
import Derived.Test.YtifhebempfjcmaaPx0
import Derived.Test.YtifhebempfjcmaaPxf35
import Derived.Test.YtifhebempfjcmaaPxf30
import Derived.Test.YtifhebempfjcmaaPxf33
import Derived.Test.YtifhebempfjcmaaPxf18
import Derived.Test.YtifhebempfjcmaaPxf21
import Derived.Test.YtifhebempfjcmaaPxf28
namespace Go.Proofs.Ytifhebempfjcmaa.P
open Go.RowKit Go.Proofs.YtifhebempfjcmaaW.PrintWords Go.Proofs.YtifhebempfjcmaaW.PrintLast Go.Proofs.YtifhebempfjcmaaW.PrintMore Go.Proofs.Ytifhebempfjcmaa.Mine
attribute [local go_sem] ext45 ext46
attribute [local go_sem] max2_int min2_int max_two min_two max_three min_three max_four min_four   -- for this text's walks alone
set_option linter.unusedVariables false
set_option linter.unusedSimpArgs false

/-! ### tumblerref02_Round: function 20 -/
mutual
def tumblerref02_Round.j0 : Nat → Int → Int → Bool → Option (Int × Int)
 | 0, _, _, _ => none
 | k + 1, x0, x1, x18 => if x18 = true then (some (0, 1)) else ((tumblerref02_Of.f x0).bind fun bt274 => ((tumblerref02_Ten.f k (wrap64 (6 - x1))).bind fun t279 => ((tumblerref02_By.f k bt274.1 bt274.2.1 bt274.2.2.1 t279).bind fun bt280 => (if (IntKind.u64.wrap (2 * bt280.2.2.2)) ≥ t279 then (tumblerref02_Round.j1 k bt274.2.2.2 t279 (decide (t279 > 1)) bt280.1 bt280.2.1 bt280.2.2.1) else (tumblerref02_Round.j1 k bt274.2.2.2 t279 false bt280.1 bt280.2.1 bt280.2.2.1)))))
def tumblerref02_Round.j1 : Nat → Bool → Int → Bool → Int → Int → Bool → Option (Int × Int)
 | 0, _, _, _, _, _, _ => none
 | k + 1, x7, x8, x40, x285000, x285001, x285002 => if x40 = true then ((tumblerref02_Plus.f x285000 x285001 x285002 0 1 false).bind fun bt285 => (tumblerref02_Round.j2 k x7 x8 bt285.1 bt285.2.1 bt285.2.2)) else (tumblerref02_Round.j2 k x7 x8 x285000 x285001 x285002)
def tumblerref02_Round.j2 : Nat → Bool → Int → Int → Int → Bool → Option (Int × Int)
 | 0, _, _, _, _, _ => none
 | k + 1, x7, x8, x285000, x285001, x285002 => (tumblerref02_Times.f k x285000 x285001 x285002 x8).bind fun bt288 => ((tumblerref02_Small.f k bt288.1 bt288.2.1 bt288.2.2 x7).bind fun bt291 => (if bt291.2 = true then (some (bt291.1, 0)) else (some (0, 10))))
end
def tumblerref02_Round.f (k : Nat) (a0 : Int) (a1 : Int) : Option (Int × Int) := if a1 < 0 then (tumblerref02_Round.j0 k a0 a1 true) else (tumblerref02_Round.j0 k a0 a1 (decide (a1 > 6)))
theorem tumblerref02_Round.mono_l : ∀ k, (∀ y0 y1 y2, LeO (tumblerref02_Round.j0 k y0 y1 y2) (tumblerref02_Round.j0 (k + 1) y0 y1 y2)) ∧ (∀ y0 y1 y2 y3 y4 y5, LeO (tumblerref02_Round.j1 k y0 y1 y2 y3 y4 y5) (tumblerref02_Round.j1 (k + 1) y0 y1 y2 y3 y4 y5)) ∧ (∀ y0 y1 y2 y3 y4, LeO (tumblerref02_Round.j2 k y0 y1 y2 y3 y4) (tumblerref02_Round.j2 (k + 1) y0 y1 y2 y3 y4))
 | 0 => ⟨fun _ _ _ r h => by simp [tumblerref02_Round.j0] at h, fun _ _ _ _ _ _ r h => by simp [tumblerref02_Round.j1] at h, fun _ _ _ _ _ r h => by simp [tumblerref02_Round.j2] at h⟩
 | k + 1 => by
  obtain ⟨ih0, ih1, ih2⟩ := tumblerref02_Round.mono_l k
  refine ⟨?_, ?_, ?_⟩
  · intro y0 y1 y2
    unfold tumblerref02_Round.j0
    repeat' first
    | (with_reducible exact ih0 _ _ _)
    | (with_reducible exact ih1 _ _ _ _ _ _)
    | (with_reducible exact ih2 _ _ _ _ _)
    | (with_reducible exact tumblerref02_By.mono _ _ _ _ _)
    | (with_reducible exact tumblerref02_Small.mono _ _ _ _ _)
    | (with_reducible exact tumblerref02_Ten.mono _ _)
    | (with_reducible exact tumblerref02_Times.mono _ _ _ _ _)
    | (with_reducible exact LeO.refl _)
    | (with_reducible exact LeO.none _)
    | (with_reducible refine LeO.ite ?_ ?_)
    | (with_reducible refine LeO.bind ?_ (fun _ => ?_))
    | exact ih0 _ _ _
    | exact ih1 _ _ _ _ _ _
    | exact ih2 _ _ _ _ _
    | exact tumblerref02_By.mono _ _ _ _ _
    | exact tumblerref02_Small.mono _ _ _ _ _
    | exact tumblerref02_Ten.mono _ _
    | exact tumblerref02_Times.mono _ _ _ _ _
    | exact LeO.none _
    | refine LeO.ite ?_ ?_
    | refine LeO.bind ?_ (fun _ => ?_)
  · intro y0 y1 y2 y3 y4 y5
    unfold tumblerref02_Round.j1
    repeat' first
    | (with_reducible exact ih0 _ _ _)
    | (with_reducible exact ih1 _ _ _ _ _ _)
    | (with_reducible exact ih2 _ _ _ _ _)
    | (with_reducible exact tumblerref02_By.mono _ _ _ _ _)
    | (with_reducible exact tumblerref02_Small.mono _ _ _ _ _)
    | (with_reducible exact tumblerref02_Ten.mono _ _)
    | (with_reducible exact tumblerref02_Times.mono _ _ _ _ _)
    | (with_reducible exact LeO.refl _)
    | (with_reducible exact LeO.none _)
    | (with_reducible refine LeO.ite ?_ ?_)
    | (with_reducible refine LeO.bind ?_ (fun _ => ?_))
    | exact ih0 _ _ _
    | exact ih1 _ _ _ _ _ _
    | exact ih2 _ _ _ _ _
    | exact tumblerref02_By.mono _ _ _ _ _
    | exact tumblerref02_Small.mono _ _ _ _ _
    | exact tumblerref02_Ten.mono _ _
    | exact tumblerref02_Times.mono _ _ _ _ _
    | exact LeO.none _
    | refine LeO.ite ?_ ?_
    | refine LeO.bind ?_ (fun _ => ?_)
  · intro y0 y1 y2 y3 y4
    unfold tumblerref02_Round.j2
    repeat' first
    | (with_reducible exact ih0 _ _ _)
    | (with_reducible exact ih1 _ _ _ _ _ _)
    | (with_reducible exact ih2 _ _ _ _ _)
    | (with_reducible exact tumblerref02_By.mono _ _ _ _ _)
    | (with_reducible exact tumblerref02_Small.mono _ _ _ _ _)
    | (with_reducible exact tumblerref02_Ten.mono _ _)
    | (with_reducible exact tumblerref02_Times.mono _ _ _ _ _)
    | (with_reducible exact LeO.refl _)
    | (with_reducible exact LeO.none _)
    | (with_reducible refine LeO.ite ?_ ?_)
    | (with_reducible refine LeO.bind ?_ (fun _ => ?_))
    | exact ih0 _ _ _
    | exact ih1 _ _ _ _ _ _
    | exact ih2 _ _ _ _ _
    | exact tumblerref02_By.mono _ _ _ _ _
    | exact tumblerref02_Small.mono _ _ _ _ _
    | exact tumblerref02_Ten.mono _ _
    | exact tumblerref02_Times.mono _ _ _ _ _
    | exact LeO.none _
    | refine LeO.ite ?_ ?_
    | refine LeO.bind ?_ (fun _ => ?_)
theorem tumblerref02_Round.mono : ∀ a0 a1 k, LeO (tumblerref02_Round.f k a0 a1) (tumblerref02_Round.f (k + 1) a0 a1) := by
 intro a0 a1 k
 obtain ⟨ih0, ih1, ih2⟩ := tumblerref02_Round.mono_l k
 unfold tumblerref02_Round.f
 repeat' first
  | (with_reducible exact ih0 _ _ _)
  | (with_reducible exact ih1 _ _ _ _ _ _)
  | (with_reducible exact ih2 _ _ _ _ _)
  | (with_reducible exact tumblerref02_By.mono _ _ _ _ _)
  | (with_reducible exact tumblerref02_Small.mono _ _ _ _ _)
  | (with_reducible exact tumblerref02_Ten.mono _ _)
  | (with_reducible exact tumblerref02_Times.mono _ _ _ _ _)
  | (with_reducible exact LeO.refl _)
  | (with_reducible exact LeO.none _)
  | (with_reducible refine LeO.ite ?_ ?_)
  | (with_reducible refine LeO.bind ?_ (fun _ => ?_))
  | exact ih0 _ _ _
  | exact ih1 _ _ _ _ _ _
  | exact ih2 _ _ _ _ _
  | exact tumblerref02_By.mono _ _ _ _ _
  | exact tumblerref02_Small.mono _ _ _ _ _
  | exact tumblerref02_Ten.mono _ _
  | exact tumblerref02_Times.mono _ _ _ _ _
  | exact LeO.none _
  | refine LeO.ite ?_ ?_
  | refine LeO.bind ?_ (fun _ => ?_)
set_option maxHeartbeats 8000000 in
set_option maxRecDepth 100000 in
theorem tumblerref02_Round.calls (k : Nat) (a0 : Int) (a1 : Int) (r1 : Int) (r2 : Int) (w : World) (h : tumblerref02_Round.f k a0 a1 = some (r1, r2)) :
 Calls Try.prog 20 #[.int .i64 a0, .int .i64 a1] w fun e w' => e = .returned (.tuple #[.int .i64 r1, .int .i64 r2]) ∧ Below w.heap.size w w' := by
 have hu35 := Try.underlying35; have HB := am (Below.refl w.heap.size w); have H : (if a1 < 0 then (tumblerref02_Round.j0 k a0 a1 true) else (tumblerref02_Round.j0 k a0 a1 (decide (a1 > 6)))) = some (r1, r2) := h; clear h; have HC3 := Aside0.mk H; clear H
 go_enter Try.func20, Try.ntmps20
 go_upto_region 1 with (fail)
 go_cut [18] (fun v18 wc => ∃ (kq : Nat) (x18_2 : Bool), v18 = .bool x18_2 ∧ Aside0 (tumblerref02_Round.j0 kq a0 a1 x18_2 = some (r1, r2)) ∧ Aside0 (kq ≤ k) ∧ Aside0 (Below w.heap.size w wc))
 case first =>
  have H := HC3.out; clear HC3
  by_cases c4 : a1 < 0
  · rw [if_pos c4] at H
    have c4b0 : decide (a1 < 0) = true := decide_eq_true c4; clear c4
    (first | rw [c4b0] | (simp only [i64_w, i32_w]; rw [c4b0]) | skip)
    have H' := Aside0.mk H; clear H
    go_wp2
    go_meet
    case rel => exact ⟨_, (true), (by first | rfl | (simp; done) | (simp [*]; done)), H', ⟨by first | omega | exact Nat.le_refl _⟩, ⟨by repeat (first | (with_reducible first | exact HB.out | apply dA | apply dB | apply dC) | exact HB.out)⟩⟩
  · rw [if_neg c4] at H
    have c4b0 : decide (a1 < 0) = false := decide_eq_false c4; clear c4
    (first | rw [c4b0] | (simp only [i64_w, i32_w]; rw [c4b0]) | skip)
    have H' := Aside0.mk H; clear H
    go_wp2
    go_meet
    case rel => exact ⟨_, (decide (a1 > 6)), (by first | rfl | (simp; done) | (simp [*]; done)), H', ⟨by first | omega | exact Nat.le_refl _⟩, ⟨by repeat (first | (with_reducible first | exact HB.out | apply dA | apply dB | apply dC) | exact HB.out)⟩⟩
 case rest =>
  clear HC3
  try clear c2
  try clear p2
  try clear c4
  try clear c4b0
  obtain ⟨kq, x18_2, rfl, HA, HJ2, HB⟩ := hcut
  cases kq with
  | zero => exact absurd HA.out (by simp [tumblerref02_Round.j0])
  | succ kj2 =>
   have H := HA.out; clear HA
   simp only [tumblerref02_Round.j0] at H
   by_cases c5 : x18_2 = true
   · subst c5
     have H1 : (some (0, 1)) = some (r1, r2) := by rw [if_pos rfl] at H; exact H
     clear H; have H := H1; clear H1
     simp only [Option.some.injEq, Prod.mk.injEq] at H
     obtain ⟨rfl, rfl⟩ := H
     go_wp2
     go_ret2
     exact ⟨by first | rfl | (simp [errW_none, errW_some] <;> rfl) | (simp [*, errW_none, errW_some] <;> rfl), by repeat (first | (with_reducible first | exact HB.out | apply dA | apply dB | apply dC) | exact HB.out)⟩
   · replace c5 := Bool.eq_false_iff.mpr c5
     subst c5
     have H1 : ((tumblerref02_Of.f a0).bind fun bt274 => ((tumblerref02_Ten.f kj2 (wrap64 (6 - a1))).bind fun t279 => ((tumblerref02_By.f kj2 bt274.1 bt274.2.1 bt274.2.2.1 t279).bind fun bt280 => (if (IntKind.u64.wrap (2 * bt280.2.2.2)) ≥ t279 then (tumblerref02_Round.j1 kj2 bt274.2.2.2 t279 (decide (t279 > 1)) bt280.1 bt280.2.1 bt280.2.2.1) else (tumblerref02_Round.j1 kj2 bt274.2.2.2 t279 false bt280.1 bt280.2.1 bt280.2.2.1))))) = some (r1, r2) := by rw [if_neg (show ¬ (false = true) by decide)] at H; exact H
     clear H; have H := H1; clear H1
     replace H := Option.bind_eq_some_iff.mp H
     obtain ⟨⟨t274, t275, t276, t277⟩, A60, H⟩ := H
     replace H : ((tumblerref02_Ten.f kj2 (wrap64 (6 - a1))).bind fun t279 => ((tumblerref02_By.f kj2 t274 t275 t276 t279).bind fun bt280 => (if (IntKind.u64.wrap (2 * bt280.2.2.2)) ≥ t279 then (tumblerref02_Round.j1 kj2 t277 t279 (decide (t279 > 1)) bt280.1 bt280.2.1 bt280.2.2.1) else (tumblerref02_Round.j1 kj2 t277 t279 false bt280.1 bt280.2.1 bt280.2.2.1)))) = some (r1, r2) := H
     have A6 := Aside0.mk A60; clear A60
     replace H := Option.bind_eq_some_iff.mp H
     obtain ⟨t279, A70, H⟩ := H
     replace H : ((tumblerref02_By.f kj2 t274 t275 t276 t279).bind fun bt280 => (if (IntKind.u64.wrap (2 * bt280.2.2.2)) ≥ t279 then (tumblerref02_Round.j1 kj2 t277 t279 (decide (t279 > 1)) bt280.1 bt280.2.1 bt280.2.2.1) else (tumblerref02_Round.j1 kj2 t277 t279 false bt280.1 bt280.2.1 bt280.2.2.1))) = some (r1, r2) := H
     have A7 := Aside0.mk A70; clear A70
     replace H := Option.bind_eq_some_iff.mp H
     obtain ⟨⟨t280, t281, t282, t283⟩, A80, H⟩ := H
     replace H : (if (IntKind.u64.wrap (2 * t283)) ≥ t279 then (tumblerref02_Round.j1 kj2 t277 t279 (decide (t279 > 1)) t280 t281 t282) else (tumblerref02_Round.j1 kj2 t277 t279 false t280 t281 t282)) = some (r1, r2) := H
     have A8 := Aside0.mk A80; clear A80; have HC9 := Aside0.mk H; clear H
     go_upto_region 6 with (first | ((with_reducible refine gate_callee (f := 28) rfl ?_); refine goesL_ (some 21) rfl rfl Try.func28 (by kernel_rfl) rfl #[.int .i64 a0] rfl (by (try simp only [List.map_toArray, List.map_cons, List.map_nil]); first | done | rfl | (simp only [List.length_drop, List.length_take]; rfl)) ?_; (with_reducible refine (tumblerref02_Of.calls a0 t274 t275 t276 t277 _ A6.out).mono ?_); rintro e w10 ⟨rfl, hb⟩; refine ⟨_, rfl, ?_⟩; have n0_ := am (below_step (by repeat (first | (with_reducible first | exact HB.out | apply dA | apply dB | apply dC) | exact HB.out)) hb); clear HB; have HB := n0_; clear n0_; (try clear hb); (try clear hb2); (try clear hk); (try clear hi)) | ((with_reducible refine gate_dst (N := 6) rfl ?_); refine box_event ?hg (N := 6) ?hd (cs := #[.int .u64 0, .int .u64 0, .bool false]) (t := 35) ?hr ?_; (case hd => rfl); (case hg => rfl); (case hr => first | (go_simp; done) | (go_simp; rfl)); intro gb278 hg w11 hbox hb; have n0_ := am (below_step (by repeat (first | (with_reducible first | exact HB.out | apply dA | apply dB | apply dC) | exact HB.out)) hb); have n1_ := am (hbox); have n2_ := am ((by rw [hg]; exact (below_size (by repeat (first | (with_reducible first | exact HB.out | apply dA | apply dB | apply dC) | exact HB.out))) : w.heap.size ≤ gb278)); have n3_ := am ((by rw [hg]; exact (below_size (by repeat (first | (with_reducible first | exact HB.out | apply dA | apply dB | apply dC) | exact HB.out))) : w.heap.size ≤ gb278)); clear HB; have HB := n0_; have BK278 := n1_; have GW278 := n2_; have GE278 := n3_; clear n0_ n1_ n2_ n3_; clear hb hbox hg; have hcz12_0 : w11.cell? ⟨gb278, 0, none⟩ = some (.int .u64 0) := (blk_cell BK278.out 0).trans rfl; have hcz12_1 : w11.cell? ⟨gb278, 1, none⟩ = some (.int .u64 0) := (blk_cell BK278.out 1).trans rfl; have hcz12_2 : w11.cell? ⟨gb278, 2, none⟩ = some (.bool false) := (blk_cell BK278.out 2).trans rfl; have hfz12_0 := blk_frozen BK278.out 0; have hfz12_1 := blk_frozen BK278.out 1; have hfz12_2 := blk_frozen BK278.out 2) | ((with_reducible refine gate_callee (f := 21) rfl ?_); refine goesL_ (some 26) rfl rfl Try.func21 (by kernel_rfl) rfl #[.int .i64 (wrap64 (6 - a1))] rfl (by (try simp only [List.map_toArray, List.map_cons, List.map_nil]); first | done | rfl | (simp only [List.length_drop, List.length_take]; rfl)) ?_; (with_reducible refine (tumblerref02_Ten.calls kj2 (wrap64 (6 - a1)) t279 _ A7.out).mono ?_); rintro e w' ⟨rfl, ⟨nd, rfl⟩⟩; refine ⟨_, rfl, ?_⟩) | ((with_reducible refine gate_callee (f := 33) rfl ?_); refine goesL_ (some 30) rfl rfl Try.func33 (by kernel_rfl) rfl #[.agg #[.int .u64 t274, .int .u64 t275, .bool t276], .int .u64 t279] rfl (by (try simp only [List.map_toArray, List.map_cons, List.map_nil]); first | done | rfl | (simp only [List.length_drop, List.length_take]; rfl)) ?_; (with_reducible refine (tumblerref02_By.calls kj2 t274 t275 t276 t279 t280 t281 t282 t283 _ A8.out).mono ?_); rintro e w13 ⟨rfl, hb⟩; refine ⟨_, rfl, ?_⟩; have n0_ := am (blk_below (g := gb278) (o := .cells #[.int .u64 t274, .int .u64 t275, .bool t276] 35 (0, 0)) (by (with_reducible repeat (first | apply bA | apply bB | apply bC)); refine blk_put (cs := #[.int .u64 t274, .int .u64 t275, .bool false]) ?_ 2 _ rfl; (with_reducible repeat (first | apply bA | apply bB | apply bC)); refine blk_put (cs := #[.int .u64 t274, .int .u64 0, .bool false]) ?_ 1 _ rfl; (with_reducible repeat (first | apply bA | apply bB | apply bC)); refine blk_put (cs := #[.int .u64 0, .int .u64 0, .bool false]) ?_ 0 _ rfl; (with_reducible repeat (first | apply bA | apply bB | apply bC)); exact BK278.out) hb); have n1_ := am (below_step (by repeat (first | (with_reducible first | exact HB.out | apply dA | apply dB | apply dC | refine dE ?_ ‹_›) | exact HB.out)) hb); clear BK278; clear HB; have BK278 := n0_; have HB := n1_; clear n0_ n1_; (try clear hb); (try clear hb2); (try clear hk); (try clear hi)) | ((with_reducible refine gate_dst (N := 9) rfl ?_); refine box_event ?hg (N := 9) ?hd (cs := #[.int .u64 0, .int .u64 0, .bool false]) (t := 35) ?hr ?_; (case hd => rfl); (case hg => rfl); (case hr => first | (go_simp; done) | (go_simp; rfl)); intro gb284 hg w14 hbox hb; have n0_ := am (blk_below (g := gb278) (o := .cells #[.int .u64 t274, .int .u64 t275, .bool t276] 35 (0, 0)) (by (with_reducible repeat (first | apply bA | apply bB | apply bC)); exact BK278.out) hb); have n1_ := am (below_step (by repeat (first | (with_reducible first | exact HB.out | apply dA | apply dB | apply dC | refine dE ?_ ‹_›) | exact HB.out)) hb); have n2_ := am (hbox); have n3_ := am ((by rw [hg]; exact (below_size (by repeat (first | (with_reducible first | exact HB.out | apply dA | apply dB | apply dC | refine dE ?_ ‹_›) | exact HB.out))) : w.heap.size ≤ gb284)); have n4_ := am ((by rw [hg]; exact (below_size (by repeat (first | (with_reducible first | exact HB.out | apply dA | apply dB | apply dC | refine dE ?_ ‹_›) | exact HB.out))) : w.heap.size ≤ gb284)); have n5_ := am ((by rw [hg]; exact Nat.ne_of_lt (blk_lt (g := gb278) (o := .cells #[.int .u64 t274, .int .u64 t275, .bool t276] 35 (0, 0)) (by (with_reducible repeat (first | apply bA | apply bB | apply bC)); exact BK278.out)) : gb278 ≠ gb284)); have n6_ := am ((by rw [hg]; exact Nat.ne_of_gt (blk_lt (g := gb278) (o := .cells #[.int .u64 t274, .int .u64 t275, .bool t276] 35 (0, 0)) (by (with_reducible repeat (first | apply bA | apply bB | apply bC)); exact BK278.out)) : gb284 ≠ gb278)); clear BK278; clear HB; have BK278 := n0_; have HB := n1_; have BK284 := n2_; have GW284 := n3_; have GE284 := n4_; have NB278_284 := n5_; have NB284_278 := n6_; clear n0_ n1_ n2_ n3_ n4_ n5_ n6_; clear hb hbox hg; have hnb15 := NB284_278.out; have hnc15 := NB278_284.out; have hcz16_0 : w14.cell? ⟨gb284, 0, none⟩ = some (.int .u64 0) := (blk_cell BK284.out 0).trans rfl; have hcz16_1 : w14.cell? ⟨gb284, 1, none⟩ = some (.int .u64 0) := (blk_cell BK284.out 1).trans rfl; have hcz16_2 : w14.cell? ⟨gb284, 2, none⟩ = some (.bool false) := (blk_cell BK284.out 2).trans rfl; have hfz16_0 := blk_frozen BK284.out 0; have hfz16_1 := blk_frozen BK284.out 1; have hfz16_2 := blk_frozen BK284.out 2))
     (try simp only [Act.put, List.setIfInBounds_toArray, List.set_cons_zero, List.set_cons_succ])
     go_cut [40] (fun v40 wc => ∃ (kq : Nat) (x40_8 : Bool), v40 = .bool x40_8 ∧ Aside0 (tumblerref02_Round.j1 kq t277 t279 x40_8 t280 t281 t282 = some (r1, r2)) ∧ Aside0 (kq ≤ kj2) ∧ Aside0 (wc.heap[gb278]? = some (.cells #[.int .u64 t274, .int .u64 t275, .bool t276] 35 (0, 0))) ∧ Aside0 (wc.heap[gb284]? = some (.cells #[.int .u64 t280, .int .u64 t281, .bool t282] 35 (0, 0))) ∧ Aside0 (Below w.heap.size w wc))
     case first =>
      have H := HC9.out; clear HC9
      by_cases c17 : (IntKind.u64.wrap (2 * t283)) ≥ t279
      · rw [if_pos c17] at H
        have c17b0 : decide (t279 ≤ (IntKind.u64.wrap (2 * t283))) = true := decide_eq_true c17; clear c17
        (first | rw [c17b0] | (simp only [i64_w, i32_w]; rw [c17b0]) | skip)
        have H' := Aside0.mk H; clear H
        go_wp2
        go_meet
        case rel => exact ⟨_, (decide (t279 > 1)), (by first | rfl | (simp; done) | (simp [*]; done)), H', ⟨by have := HJ2.out; first | omega | exact Nat.le_refl _⟩, ⟨by (with_reducible repeat (first | apply bA | apply bB | apply bC)); refine blk_far ?_ NB278_284.out _; (with_reducible repeat (first | apply bA | apply bB | apply bC)); refine blk_far ?_ NB278_284.out _; (with_reducible repeat (first | apply bA | apply bB | apply bC)); refine blk_far ?_ NB278_284.out _; (with_reducible repeat (first | apply bA | apply bB | apply bC)); exact BK278.out⟩, ⟨by (with_reducible repeat (first | apply bA | apply bB | apply bC)); refine blk_put (cs := #[.int .u64 t280, .int .u64 t281, .bool false]) ?_ 2 _ rfl; (with_reducible repeat (first | apply bA | apply bB | apply bC)); refine blk_put (cs := #[.int .u64 t280, .int .u64 0, .bool false]) ?_ 1 _ rfl; (with_reducible repeat (first | apply bA | apply bB | apply bC)); refine blk_put (cs := #[.int .u64 0, .int .u64 0, .bool false]) ?_ 0 _ rfl; (with_reducible repeat (first | apply bA | apply bB | apply bC)); exact BK284.out⟩, ⟨by repeat (first | (with_reducible first | exact HB.out | apply dA | apply dB | apply dC | refine dE ?_ ‹_›) | exact HB.out)⟩⟩
      · rw [if_neg c17] at H
        have c17b0 : decide (t279 ≤ (IntKind.u64.wrap (2 * t283))) = false := decide_eq_false c17; clear c17
        (first | rw [c17b0] | (simp only [i64_w, i32_w]; rw [c17b0]) | skip)
        have H' := Aside0.mk H; clear H
        go_wp2
        go_meet
        case rel => exact ⟨_, (false), (by first | rfl | (simp; done) | (simp [*]; done)), H', ⟨by have := HJ2.out; first | omega | exact Nat.le_refl _⟩, ⟨by (with_reducible repeat (first | apply bA | apply bB | apply bC)); refine blk_far ?_ NB278_284.out _; (with_reducible repeat (first | apply bA | apply bB | apply bC)); refine blk_far ?_ NB278_284.out _; (with_reducible repeat (first | apply bA | apply bB | apply bC)); refine blk_far ?_ NB278_284.out _; (with_reducible repeat (first | apply bA | apply bB | apply bC)); exact BK278.out⟩, ⟨by (with_reducible repeat (first | apply bA | apply bB | apply bC)); refine blk_put (cs := #[.int .u64 t280, .int .u64 t281, .bool false]) ?_ 2 _ rfl; (with_reducible repeat (first | apply bA | apply bB | apply bC)); refine blk_put (cs := #[.int .u64 t280, .int .u64 0, .bool false]) ?_ 1 _ rfl; (with_reducible repeat (first | apply bA | apply bB | apply bC)); refine blk_put (cs := #[.int .u64 0, .int .u64 0, .bool false]) ?_ 0 _ rfl; (with_reducible repeat (first | apply bA | apply bB | apply bC)); exact BK284.out⟩, ⟨by repeat (first | (with_reducible first | exact HB.out | apply dA | apply dB | apply dC | refine dE ?_ ‹_›) | exact HB.out)⟩⟩
     case rest =>
      clear HC9
      try clear c1
      try clear c2
      try clear p2
      try clear c3
      try clear c4
      try clear c4b0
      try clear c5
      try clear p6
      try clear c15
      try clear c17
      try clear c17b0
      try clear hcz12_0
      try clear hcz12_1
      try clear hcz12_2
      try clear hcz16_0
      try clear hcz16_1
      try clear hcz16_2
      try clear hfz12_0
      try clear hfz12_1
      try clear hfz12_2
      try clear hfz16_0
      try clear hfz16_1
      try clear hfz16_2
      try clear p2
      obtain ⟨kq, x40_8, rfl, HA, HJ8, BK278, BK284, HB⟩ := hcut
      cases kq with
      | zero => exact absurd HA.out (by simp [tumblerref02_Round.j1])
      | succ kj8 =>
       have H := HA.out; clear HA
       simp only [tumblerref02_Round.j1] at H
       have HC18 := Aside0.mk H; clear H
       go_upto_if 40 with (fail)
       go_cut [] (fun wc => ∃ (kq : Nat) (x285000_17 : Int) (x285001_17 : Int) (x285002_17 : Bool), Aside0 (tumblerref02_Round.j2 kq t277 t279 x285000_17 x285001_17 x285002_17 = some (r1, r2)) ∧ Aside0 (kq ≤ kj8) ∧ Aside0 (wc.heap[gb278]? = some (.cells #[.int .u64 t274, .int .u64 t275, .bool t276] 35 (0, 0))) ∧ Aside0 (wc.heap[gb284]? = some (.cells #[.int .u64 x285000_17, .int .u64 x285001_17, .bool x285002_17] 35 (0, 0))) ∧ Aside0 (Below w.heap.size w wc))
       case first =>
        have H := HC18.out; clear HC18
        by_cases c19 : x40_8 = true
        · subst c19
          have H1 : ((tumblerref02_Plus.f t280 t281 t282 0 1 false).bind fun bt285 => (tumblerref02_Round.j2 kj8 t277 t279 bt285.1 bt285.2.1 bt285.2.2)) = some (r1, r2) := by rw [if_pos rfl] at H; exact H
          clear H; have H := H1; clear H1
          replace H := Option.bind_eq_some_iff.mp H
          obtain ⟨⟨t285, t286, t287⟩, A200, H⟩ := H
          replace H : (tumblerref02_Round.j2 kj8 t277 t279 t285 t286 t287) = some (r1, r2) := H
          have A20 := Aside0.mk A200; clear A200; have H' := Aside0.mk H; clear H; have hnb21 := NB284_278.out; have hnc21 := NB278_284.out; have hcz22_0 : wc.cell? ⟨gb284, 0, none⟩ = some (.int .u64 t280) := (blk_cell BK284.out 0).trans rfl; have hcz22_1 : wc.cell? ⟨gb284, 1, none⟩ = some (.int .u64 t281) := (blk_cell BK284.out 1).trans rfl; have hcz22_2 : wc.cell? ⟨gb284, 2, none⟩ = some (.bool t282) := (blk_cell BK284.out 2).trans rfl; have hfz22_0 := blk_frozen BK284.out 0; have hfz22_1 := blk_frozen BK284.out 1; have hfz22_2 := blk_frozen BK284.out 2
          go_wp2_with (first | ((with_reducible refine gate_callee (f := 35) rfl ?_); refine goesL_ (some 43) rfl rfl Try.func35 (by kernel_rfl) rfl #[.agg #[.int .u64 t280, .int .u64 t281, .bool t282], .agg #[.int .u64 0, .int .u64 1, .bool false]] rfl (by (try simp only [List.map_toArray, List.map_cons, List.map_nil]); first | done | rfl | (simp only [List.length_drop, List.length_take]; rfl)) ?_; (with_reducible refine (tumblerref02_Plus.calls t280 t281 t282 0 1 false t285 t286 t287 _ A20.out).mono ?_); rintro e w23 ⟨rfl, hb⟩; refine ⟨_, rfl, ?_⟩; have n0_ := am (blk_below (g := gb278) (o := .cells #[.int .u64 t274, .int .u64 t275, .bool t276] 35 (0, 0)) (by (with_reducible repeat (first | apply bA | apply bB | apply bC)); exact BK278.out) hb); have n1_ := am (blk_below (g := gb284) (o := .cells #[.int .u64 t280, .int .u64 t281, .bool t282] 35 (0, 0)) (by (with_reducible repeat (first | apply bA | apply bB | apply bC)); exact BK284.out) hb); have n2_ := am (below_step (by repeat (first | (with_reducible first | exact HB.out | apply dA | apply dB | apply dC | refine dE ?_ ‹_›) | exact HB.out)) hb); clear BK278; clear BK284; clear HB; have BK278 := n0_; have BK284 := n1_; have HB := n2_; clear n0_ n1_ n2_; (try clear hb); (try clear hb2); (try clear hk); (try clear hi); have hcz24_0 : w23.cell? ⟨gb284, 0, none⟩ = some (.int .u64 t280) := (blk_cell BK284.out 0).trans rfl; have hcz24_1 : w23.cell? ⟨gb284, 1, none⟩ = some (.int .u64 t281) := (blk_cell BK284.out 1).trans rfl; have hcz24_2 : w23.cell? ⟨gb284, 2, none⟩ = some (.bool t282) := (blk_cell BK284.out 2).trans rfl; have hfz24_0 := blk_frozen BK284.out 0; have hfz24_1 := blk_frozen BK284.out 1; have hfz24_2 := blk_frozen BK284.out 2))
          go_meet
          case rel => exact ⟨_, (t285), (t286), (t287), H', ⟨by have := HJ2.out; have := HJ8.out; first | omega | exact Nat.le_refl _⟩, ⟨by (with_reducible repeat (first | apply bA | apply bB | apply bC)); refine blk_far ?_ NB278_284.out _; (with_reducible repeat (first | apply bA | apply bB | apply bC)); refine blk_far ?_ NB278_284.out _; (with_reducible repeat (first | apply bA | apply bB | apply bC)); refine blk_far ?_ NB278_284.out _; (with_reducible repeat (first | apply bA | apply bB | apply bC)); exact BK278.out⟩, ⟨by (with_reducible repeat (first | apply bA | apply bB | apply bC)); refine blk_put (cs := #[.int .u64 t285, .int .u64 t286, .bool t282]) ?_ 2 _ rfl; (with_reducible repeat (first | apply bA | apply bB | apply bC)); refine blk_put (cs := #[.int .u64 t285, .int .u64 t281, .bool t282]) ?_ 1 _ rfl; (with_reducible repeat (first | apply bA | apply bB | apply bC)); refine blk_put (cs := #[.int .u64 t280, .int .u64 t281, .bool t282]) ?_ 0 _ rfl; (with_reducible repeat (first | apply bA | apply bB | apply bC)); exact BK284.out⟩, ⟨by repeat (first | (with_reducible first | exact HB.out | apply dA | apply dB | apply dC | refine dE ?_ ‹_›) | exact HB.out)⟩⟩
        · replace c19 := Bool.eq_false_iff.mpr c19
          subst c19
          have H1 : (tumblerref02_Round.j2 kj8 t277 t279 t280 t281 t282) = some (r1, r2) := by rw [if_neg (show ¬ (false = true) by decide)] at H; exact H
          clear H; have H := H1; clear H1; have H' := Aside0.mk H; clear H
          go_wp2
          go_meet
          case rel => exact ⟨_, (t280), (t281), (t282), H', ⟨by have := HJ2.out; have := HJ8.out; first | omega | exact Nat.le_refl _⟩, ⟨by (with_reducible repeat (first | apply bA | apply bB | apply bC)); exact BK278.out⟩, ⟨by (with_reducible repeat (first | apply bA | apply bB | apply bC)); exact BK284.out⟩, ⟨by repeat (first | (with_reducible first | exact HB.out | apply dA | apply dB | apply dC | refine dE ?_ ‹_›) | exact HB.out)⟩⟩
       case rest =>
        clear HC18
        try clear c1
        try clear c2
        try clear p2
        try clear c3
        try clear c4
        try clear c4b0
        try clear c5
        try clear p6
        try clear c15
        try clear c17
        try clear c17b0
        try clear c19
        try clear c20
        try clear c21
        try clear hcz12_0
        try clear hcz12_1
        try clear hcz12_2
        try clear hcz16_0
        try clear hcz16_1
        try clear hcz16_2
        try clear hcz22_0
        try clear hcz22_1
        try clear hcz22_2
        try clear hcz24_0
        try clear hcz24_1
        try clear hcz24_2
        try clear hfz12_0
        try clear hfz12_1
        try clear hfz12_2
        try clear hfz16_0
        try clear hfz16_1
        try clear hfz16_2
        try clear hfz22_0
        try clear hfz22_1
        try clear hfz22_2
        try clear hfz24_0
        try clear hfz24_1
        try clear hfz24_2
        try clear p2
        try clear p6
        obtain ⟨kq, x285000_17, x285001_17, x285002_17, HA, HJ17, BK278, BK284, HB⟩ := hcut
        cases kq with
        | zero => exact absurd HA.out (by simp [tumblerref02_Round.j2])
        | succ kj17 =>
         have H := HA.out; clear HA
         simp only [tumblerref02_Round.j2] at H
         replace H := Option.bind_eq_some_iff.mp H
         obtain ⟨⟨t288, t289, t290⟩, A250, H⟩ := H
         replace H : ((tumblerref02_Small.f kj17 t288 t289 t290 t277).bind fun bt291 => (if bt291.2 = true then (some (bt291.1, 0)) else (some (0, 10)))) = some (r1, r2) := H
         have A25 := Aside0.mk A250; clear A250
         replace H := Option.bind_eq_some_iff.mp H
         obtain ⟨⟨t291, t292⟩, A260, H⟩ := H
         replace H : (if t292 = true then (some (t291, 0)) else (some (0, 10))) = some (r1, r2) := H
         have A26 := Aside0.mk A260; clear A260
         by_cases c27 : t292 = true
         · subst c27
           have H1 : (some (t291, 0)) = some (r1, r2) := by rw [if_pos rfl] at H; exact H
           clear H; have H := H1; clear H1
           simp only [Option.some.injEq, Prod.mk.injEq] at H
           obtain ⟨rfl, rfl⟩ := H
           have hnb28 := NB284_278.out; have hnc28 := NB278_284.out; have hcz29_0 : wc.cell? ⟨gb284, 0, none⟩ = some (.int .u64 x285000_17) := (blk_cell BK284.out 0).trans rfl; have hcz29_1 : wc.cell? ⟨gb284, 1, none⟩ = some (.int .u64 x285001_17) := (blk_cell BK284.out 1).trans rfl; have hcz29_2 : wc.cell? ⟨gb284, 2, none⟩ = some (.bool x285002_17) := (blk_cell BK284.out 2).trans rfl; have hfz29_0 := blk_frozen BK284.out 0; have hfz29_1 := blk_frozen BK284.out 1; have hfz29_2 := blk_frozen BK284.out 2
           go_wp2_with (first | ((with_reducible refine gate_callee (f := 18) rfl ?_); refine goesL_ (some 47) rfl rfl Try.func18 (by kernel_rfl) rfl #[.agg #[.int .u64 x285000_17, .int .u64 x285001_17, .bool x285002_17], .int .u64 t279] rfl (by (try simp only [List.map_toArray, List.map_cons, List.map_nil]); first | done | rfl | (simp only [List.length_drop, List.length_take]; rfl)) ?_; (with_reducible refine (tumblerref02_Times.calls kj17 x285000_17 x285001_17 x285002_17 t279 t288 t289 t290 _ A25.out).mono ?_); rintro e w30 ⟨rfl, hb⟩; refine ⟨_, rfl, ?_⟩; have n0_ := am (blk_below (g := gb278) (o := .cells #[.int .u64 t274, .int .u64 t275, .bool t276] 35 (0, 0)) (by (with_reducible repeat (first | apply bA | apply bB | apply bC)); exact BK278.out) hb); have n1_ := am (blk_below (g := gb284) (o := .cells #[.int .u64 x285000_17, .int .u64 x285001_17, .bool x285002_17] 35 (0, 0)) (by (with_reducible repeat (first | apply bA | apply bB | apply bC)); exact BK284.out) hb); have n2_ := am (below_step (by repeat (first | (with_reducible first | exact HB.out | apply dA | apply dB | apply dC | refine dE ?_ ‹_›) | exact HB.out)) hb); clear BK278; clear BK284; clear HB; have BK278 := n0_; have BK284 := n1_; have HB := n2_; clear n0_ n1_ n2_; (try clear hb); (try clear hb2); (try clear hk); (try clear hi)) | ((with_reducible refine gate_callee (f := 30) rfl ?_); refine goesL_ (some 49) rfl rfl Try.func30 (by kernel_rfl) rfl #[.agg #[.int .u64 t288, .int .u64 t289, .bool t290], .bool t277] rfl (by (try simp only [List.map_toArray, List.map_cons, List.map_nil]); first | done | rfl | (simp only [List.length_drop, List.length_take]; rfl)) ?_; (with_reducible refine (tumblerref02_Small.calls kj17 t288 t289 t290 t277 t291 true _ A26.out).mono ?_); rintro e w31 ⟨rfl, hb⟩; refine ⟨_, rfl, ?_⟩; have n0_ := am (blk_below (g := gb278) (o := .cells #[.int .u64 t274, .int .u64 t275, .bool t276] 35 (0, 0)) (by (with_reducible repeat (first | apply bA | apply bB | apply bC)); exact BK278.out) hb); have n1_ := am (blk_below (g := gb284) (o := .cells #[.int .u64 x285000_17, .int .u64 x285001_17, .bool x285002_17] 35 (0, 0)) (by (with_reducible repeat (first | apply bA | apply bB | apply bC)); exact BK284.out) hb); have n2_ := am (below_step (by repeat (first | (with_reducible first | exact HB.out | apply dA | apply dB | apply dC | refine dE ?_ ‹_›) | exact HB.out)) hb); clear BK278; clear BK284; clear HB; have BK278 := n0_; have BK284 := n1_; have HB := n2_; clear n0_ n1_ n2_; (try clear hb); (try clear hb2); (try clear hk); (try clear hi)))
           go_ret2
           exact ⟨by first | rfl | (simp [errW_none, errW_some] <;> rfl) | (simp [*, errW_none, errW_some] <;> rfl), by repeat (first | (with_reducible first | exact HB.out | apply dA | apply dB | apply dC | refine dE ?_ ‹_›) | exact HB.out)⟩
         · replace c27 := Bool.eq_false_iff.mpr c27
           subst c27
           have H1 : (some (0, 10)) = some (r1, r2) := by rw [if_neg (show ¬ (false = true) by decide)] at H; exact H
           clear H; have H := H1; clear H1
           simp only [Option.some.injEq, Prod.mk.injEq] at H
           obtain ⟨rfl, rfl⟩ := H
           have hnb32 := NB284_278.out; have hnc32 := NB278_284.out; have hcz33_0 : wc.cell? ⟨gb284, 0, none⟩ = some (.int .u64 x285000_17) := (blk_cell BK284.out 0).trans rfl; have hcz33_1 : wc.cell? ⟨gb284, 1, none⟩ = some (.int .u64 x285001_17) := (blk_cell BK284.out 1).trans rfl; have hcz33_2 : wc.cell? ⟨gb284, 2, none⟩ = some (.bool x285002_17) := (blk_cell BK284.out 2).trans rfl; have hfz33_0 := blk_frozen BK284.out 0; have hfz33_1 := blk_frozen BK284.out 1; have hfz33_2 := blk_frozen BK284.out 2
           go_wp2_with (first | ((with_reducible refine gate_callee (f := 18) rfl ?_); refine goesL_ (some 47) rfl rfl Try.func18 (by kernel_rfl) rfl #[.agg #[.int .u64 x285000_17, .int .u64 x285001_17, .bool x285002_17], .int .u64 t279] rfl (by (try simp only [List.map_toArray, List.map_cons, List.map_nil]); first | done | rfl | (simp only [List.length_drop, List.length_take]; rfl)) ?_; (with_reducible refine (tumblerref02_Times.calls kj17 x285000_17 x285001_17 x285002_17 t279 t288 t289 t290 _ A25.out).mono ?_); rintro e w34 ⟨rfl, hb⟩; refine ⟨_, rfl, ?_⟩; have n0_ := am (blk_below (g := gb278) (o := .cells #[.int .u64 t274, .int .u64 t275, .bool t276] 35 (0, 0)) (by (with_reducible repeat (first | apply bA | apply bB | apply bC)); exact BK278.out) hb); have n1_ := am (blk_below (g := gb284) (o := .cells #[.int .u64 x285000_17, .int .u64 x285001_17, .bool x285002_17] 35 (0, 0)) (by (with_reducible repeat (first | apply bA | apply bB | apply bC)); exact BK284.out) hb); have n2_ := am (below_step (by repeat (first | (with_reducible first | exact HB.out | apply dA | apply dB | apply dC | refine dE ?_ ‹_›) | exact HB.out)) hb); clear BK278; clear BK284; clear HB; have BK278 := n0_; have BK284 := n1_; have HB := n2_; clear n0_ n1_ n2_; (try clear hb); (try clear hb2); (try clear hk); (try clear hi)) | ((with_reducible refine gate_callee (f := 30) rfl ?_); refine goesL_ (some 49) rfl rfl Try.func30 (by kernel_rfl) rfl #[.agg #[.int .u64 t288, .int .u64 t289, .bool t290], .bool t277] rfl (by (try simp only [List.map_toArray, List.map_cons, List.map_nil]); first | done | rfl | (simp only [List.length_drop, List.length_take]; rfl)) ?_; (with_reducible refine (tumblerref02_Small.calls kj17 t288 t289 t290 t277 t291 false _ A26.out).mono ?_); rintro e w35 ⟨rfl, hb⟩; refine ⟨_, rfl, ?_⟩; have n0_ := am (blk_below (g := gb278) (o := .cells #[.int .u64 t274, .int .u64 t275, .bool t276] 35 (0, 0)) (by (with_reducible repeat (first | apply bA | apply bB | apply bC)); exact BK278.out) hb); have n1_ := am (blk_below (g := gb284) (o := .cells #[.int .u64 x285000_17, .int .u64 x285001_17, .bool x285002_17] 35 (0, 0)) (by (with_reducible repeat (first | apply bA | apply bB | apply bC)); exact BK284.out) hb); have n2_ := am (below_step (by repeat (first | (with_reducible first | exact HB.out | apply dA | apply dB | apply dC | refine dE ?_ ‹_›) | exact HB.out)) hb); clear BK278; clear BK284; clear HB; have BK278 := n0_; have BK284 := n1_; have HB := n2_; clear n0_ n1_ n2_; (try clear hb); (try clear hb2); (try clear hk); (try clear hi)))
           go_ret2
           exact ⟨by first | rfl | (simp [errW_none, errW_some] <;> rfl) | (simp [*, errW_none, errW_some] <;> rfl), by repeat (first | (with_reducible first | exact HB.out | apply dA | apply dB | apply dC | refine dE ?_ ‹_›) | exact HB.out)⟩

end Go.Proofs.Ytifhebempfjcmaa.P
