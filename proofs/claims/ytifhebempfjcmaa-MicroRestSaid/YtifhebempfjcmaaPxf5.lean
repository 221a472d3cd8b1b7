-- Printed by this session's own pp.py (wip/tool) out of the translation.
import Derived.Test.YtifhebempfjcmaaPx0
import Derived.Test.YtifhebempfjcmaaPxe24
import Derived.Test.YtifhebempfjcmaaPxf17
import Derived.Test.YtifhebempfjcmaaPxf15
import Derived.Test.YtifhebempfjcmaaPxf18
namespace Go.Proofs.Ytifhebempfjcmaa.P
open Go.RowKit Go.Proofs.YtifhebempfjcmaaW.PrintWords Go.Proofs.YtifhebempfjcmaaW.PrintLast Go.Proofs.YtifhebempfjcmaaW.PrintMore Go.Proofs.Ytifhebempfjcmaa.Mine
attribute [local go_sem] ext45 ext46
attribute [local go_sem] max2_int min2_int max_two min_two max_three min_three max_four min_four   -- for this text's walks alone
set_option linter.unusedVariables false
set_option linter.unusedSimpArgs false

attribute [local go_sem high] eqA24
/-! ### tumblerlaw02_MicroRest: function 5 -/
mutual
def tumblerlaw02_MicroRest.j0 : Nat → Int → Bool → Int → Int → Bool → Int → Int → Bool → Option (Bool)
 | 0, _, _, _, _, _, _, _, _ => none
 | k + 1, x1, x62, x233000, x233001, x233002, x242000, x242001, x242002 => if x62 = true then (some false) else (if x242000 > x233000 then (tumblerlaw02_MicroRest.j1 k x1 true x233000 x233001 x233002 x242000 x242001 x242002) else (if x242000 = x233000 then (tumblerlaw02_MicroRest.j1 k x1 (decide (x242001 > x233001)) x233000 x233001 x233002 x242000 x242001 x242002) else (tumblerlaw02_MicroRest.j1 k x1 false x233000 x233001 x233002 x242000 x242001 x242002)))
def tumblerlaw02_MicroRest.j1 : Nat → Int → Bool → Int → Int → Bool → Int → Int → Bool → Option (Bool)
 | 0, _, _, _, _, _, _, _, _ => none
 | k + 1, x1, x81, x233000, x233001, x233002, x242000, x242001, x242002 => if x81 = true then (some false) else (if x233001 < x242001 then (if (IntKind.u64.wrap ((IntKind.u64.wrap (x233000 - x242000)) - 1)) = 0 then (some (decide ((IntKind.u64.wrap (x233001 - x242001)) < (IntKind.u64.wrap (x1))))) else (some false)) else (if (IntKind.u64.wrap (x233000 - x242000)) = 0 then (some (decide ((IntKind.u64.wrap (x233001 - x242001)) < (IntKind.u64.wrap (x1))))) else (some false)))
end
def tumblerlaw02_MicroRest.f (k : Nat) (a0_0 : Int) (a0_1 : Int) (a1 : Int) : Option (Bool) := (micro_Share.f k a0_0 a0_1 a1).bind fun bt224 => (if a1 < 1 then (if bt224.2.2 = 1 then (some (bt224.1 == 0 && (bt224.2.1 == 0))) else (some false)) else ((tumblerref02_Amount.f a0_0 a0_1).bind fun bt228 => ((tumblerref02_Amount.f bt224.1 bt224.2.1).bind fun bt233 => ((tumblerref02_Times.f k bt233.1 bt233.2.1 bt233.2.2.1 (IntKind.u64.wrap (a1))).bind fun bt238 => (if bt224.2.2 = 0 then (if bt233.1 > 0 then (if (bt233.2.2.2 != bt228.2.2.2) = true then (tumblerlaw02_MicroRest.j0 k a1 true bt228.1 bt228.2.1 bt228.2.2.1 bt238.1 bt238.2.1 bt238.2.2) else (tumblerlaw02_MicroRest.j0 k a1 bt238.2.2 bt228.1 bt228.2.1 bt228.2.2.1 bt238.1 bt238.2.1 bt238.2.2)) else (if bt233.2.1 > 0 then (if (bt233.2.2.2 != bt228.2.2.2) = true then (tumblerlaw02_MicroRest.j0 k a1 true bt228.1 bt228.2.1 bt228.2.2.1 bt238.1 bt238.2.1 bt238.2.2) else (tumblerlaw02_MicroRest.j0 k a1 bt238.2.2 bt228.1 bt228.2.1 bt228.2.2.1 bt238.1 bt238.2.1 bt238.2.2)) else (tumblerlaw02_MicroRest.j0 k a1 bt238.2.2 bt228.1 bt228.2.1 bt228.2.2.1 bt238.1 bt238.2.1 bt238.2.2))) else (tumblerlaw02_MicroRest.j0 k a1 true bt228.1 bt228.2.1 bt228.2.2.1 bt238.1 bt238.2.1 bt238.2.2))))))
theorem tumblerlaw02_MicroRest.mono_l : ∀ k, (∀ y0 y1 y2 y3 y4 y5 y6 y7, LeO (tumblerlaw02_MicroRest.j0 k y0 y1 y2 y3 y4 y5 y6 y7) (tumblerlaw02_MicroRest.j0 (k + 1) y0 y1 y2 y3 y4 y5 y6 y7)) ∧ (∀ y0 y1 y2 y3 y4 y5 y6 y7, LeO (tumblerlaw02_MicroRest.j1 k y0 y1 y2 y3 y4 y5 y6 y7) (tumblerlaw02_MicroRest.j1 (k + 1) y0 y1 y2 y3 y4 y5 y6 y7))
 | 0 => ⟨fun _ _ _ _ _ _ _ _ r h => by simp [tumblerlaw02_MicroRest.j0] at h, fun _ _ _ _ _ _ _ _ r h => by simp [tumblerlaw02_MicroRest.j1] at h⟩
 | k + 1 => by
  obtain ⟨ih0, ih1⟩ := tumblerlaw02_MicroRest.mono_l k
  refine ⟨?_, ?_⟩
  · intro y0 y1 y2 y3 y4 y5 y6 y7
    unfold tumblerlaw02_MicroRest.j0
    repeat' first
    | (with_reducible exact ih0 _ _ _ _ _ _ _ _)
    | (with_reducible exact ih1 _ _ _ _ _ _ _ _)
    | (with_reducible exact micro_Share.mono _ _ _ _)
    | (with_reducible exact tumblerref02_Times.mono _ _ _ _ _)
    | (with_reducible exact LeO.refl _)
    | (with_reducible exact LeO.none _)
    | (with_reducible refine LeO.ite ?_ ?_)
    | (with_reducible refine LeO.bind ?_ (fun _ => ?_))
    | exact ih0 _ _ _ _ _ _ _ _
    | exact ih1 _ _ _ _ _ _ _ _
    | exact micro_Share.mono _ _ _ _
    | exact tumblerref02_Times.mono _ _ _ _ _
    | exact LeO.none _
    | refine LeO.ite ?_ ?_
    | refine LeO.bind ?_ (fun _ => ?_)
  · intro y0 y1 y2 y3 y4 y5 y6 y7
    unfold tumblerlaw02_MicroRest.j1
    repeat' first
    | (with_reducible exact ih0 _ _ _ _ _ _ _ _)
    | (with_reducible exact ih1 _ _ _ _ _ _ _ _)
    | (with_reducible exact micro_Share.mono _ _ _ _)
    | (with_reducible exact tumblerref02_Times.mono _ _ _ _ _)
    | (with_reducible exact LeO.refl _)
    | (with_reducible exact LeO.none _)
    | (with_reducible refine LeO.ite ?_ ?_)
    | (with_reducible refine LeO.bind ?_ (fun _ => ?_))
    | exact ih0 _ _ _ _ _ _ _ _
    | exact ih1 _ _ _ _ _ _ _ _
    | exact micro_Share.mono _ _ _ _
    | exact tumblerref02_Times.mono _ _ _ _ _
    | exact LeO.none _
    | refine LeO.ite ?_ ?_
    | refine LeO.bind ?_ (fun _ => ?_)
theorem tumblerlaw02_MicroRest.mono : ∀ a0 a1 a2 k, LeO (tumblerlaw02_MicroRest.f k a0 a1 a2) (tumblerlaw02_MicroRest.f (k + 1) a0 a1 a2) := by
 intro a0 a1 a2 k
 obtain ⟨ih0, ih1⟩ := tumblerlaw02_MicroRest.mono_l k
 unfold tumblerlaw02_MicroRest.f
 repeat' first
  | (with_reducible exact ih0 _ _ _ _ _ _ _ _)
  | (with_reducible exact ih1 _ _ _ _ _ _ _ _)
  | (with_reducible exact micro_Share.mono _ _ _ _)
  | (with_reducible exact tumblerref02_Times.mono _ _ _ _ _)
  | (with_reducible exact LeO.refl _)
  | (with_reducible exact LeO.none _)
  | (with_reducible refine LeO.ite ?_ ?_)
  | (with_reducible refine LeO.bind ?_ (fun _ => ?_))
  | exact ih0 _ _ _ _ _ _ _ _
  | exact ih1 _ _ _ _ _ _ _ _
  | exact micro_Share.mono _ _ _ _
  | exact tumblerref02_Times.mono _ _ _ _ _
  | exact LeO.none _
  | refine LeO.ite ?_ ?_
  | refine LeO.bind ?_ (fun _ => ?_)
set_option maxHeartbeats 8000000 in
set_option maxRecDepth 100000 in
theorem tumblerlaw02_MicroRest.calls (k : Nat) (a0_0 : Int) (a0_1 : Int) (a1 : Int) (r : Bool) (w : World) (h : tumblerlaw02_MicroRest.f k a0_0 a0_1 a1 = some r) :
 Calls Try.prog 5 #[.agg #[.int .i64 a0_0, .int .u64 a0_1], .int .i64 a1] w fun e w' => e = .returned (.bool r) ∧ Below w.heap.size w w' := by
 have hu24 := Try.underlying24; have hu35 := Try.underlying35; have HB := am (Below.refl w.heap.size w); have H : ((micro_Share.f k a0_0 a0_1 a1).bind fun bt224 => (if a1 < 1 then (if bt224.2.2 = 1 then (some (bt224.1 == 0 && (bt224.2.1 == 0))) else (some false)) else ((tumblerref02_Amount.f a0_0 a0_1).bind fun bt228 => ((tumblerref02_Amount.f bt224.1 bt224.2.1).bind fun bt233 => ((tumblerref02_Times.f k bt233.1 bt233.2.1 bt233.2.2.1 (IntKind.u64.wrap (a1))).bind fun bt238 => (if bt224.2.2 = 0 then (if bt233.1 > 0 then (if (bt233.2.2.2 != bt228.2.2.2) = true then (tumblerlaw02_MicroRest.j0 k a1 true bt228.1 bt228.2.1 bt228.2.2.1 bt238.1 bt238.2.1 bt238.2.2) else (tumblerlaw02_MicroRest.j0 k a1 bt238.2.2 bt228.1 bt228.2.1 bt228.2.2.1 bt238.1 bt238.2.1 bt238.2.2)) else (if bt233.2.1 > 0 then (if (bt233.2.2.2 != bt228.2.2.2) = true then (tumblerlaw02_MicroRest.j0 k a1 true bt228.1 bt228.2.1 bt228.2.2.1 bt238.1 bt238.2.1 bt238.2.2) else (tumblerlaw02_MicroRest.j0 k a1 bt238.2.2 bt228.1 bt228.2.1 bt228.2.2.1 bt238.1 bt238.2.1 bt238.2.2)) else (tumblerlaw02_MicroRest.j0 k a1 bt238.2.2 bt228.1 bt228.2.1 bt228.2.2.1 bt238.1 bt238.2.1 bt238.2.2))) else (tumblerlaw02_MicroRest.j0 k a1 true bt228.1 bt228.2.1 bt228.2.2.1 bt238.1 bt238.2.1 bt238.2.2))))))) = some r := h; clear h
 replace H := Option.bind_eq_some_iff.mp H
 obtain ⟨⟨t224, t225, t226⟩, A30, H⟩ := H
 replace H : (if a1 < 1 then (if t226 = 1 then (some (t224 == 0 && (t225 == 0))) else (some false)) else ((tumblerref02_Amount.f a0_0 a0_1).bind fun bt228 => ((tumblerref02_Amount.f t224 t225).bind fun bt233 => ((tumblerref02_Times.f k bt233.1 bt233.2.1 bt233.2.2.1 (IntKind.u64.wrap (a1))).bind fun bt238 => (if t226 = 0 then (if bt233.1 > 0 then (if (bt233.2.2.2 != bt228.2.2.2) = true then (tumblerlaw02_MicroRest.j0 k a1 true bt228.1 bt228.2.1 bt228.2.2.1 bt238.1 bt238.2.1 bt238.2.2) else (tumblerlaw02_MicroRest.j0 k a1 bt238.2.2 bt228.1 bt228.2.1 bt228.2.2.1 bt238.1 bt238.2.1 bt238.2.2)) else (if bt233.2.1 > 0 then (if (bt233.2.2.2 != bt228.2.2.2) = true then (tumblerlaw02_MicroRest.j0 k a1 true bt228.1 bt228.2.1 bt228.2.2.1 bt238.1 bt238.2.1 bt238.2.2) else (tumblerlaw02_MicroRest.j0 k a1 bt238.2.2 bt228.1 bt228.2.1 bt228.2.2.1 bt238.1 bt238.2.1 bt238.2.2)) else (tumblerlaw02_MicroRest.j0 k a1 bt238.2.2 bt228.1 bt228.2.1 bt228.2.2.1 bt238.1 bt238.2.1 bt238.2.2))) else (tumblerlaw02_MicroRest.j0 k a1 true bt228.1 bt228.2.1 bt228.2.2.1 bt238.1 bt238.2.1 bt238.2.2)))))) = some r := H
 have A3 := Aside0.mk A30; clear A30
 by_cases c4 : a1 < 1
 · rw [if_pos c4] at H
   have c4b0 : decide (a1 < 1) = true := decide_eq_true c4; clear c4
   by_cases c5 : t226 = 1
   · rw [if_pos c5] at H
     have c5b0 : (t226 == 1) = true := beq_iff_eq.mpr c5; have c5b1 : (t226 != 1) = false := bne_eq_false_iff_eq.mpr c5; clear c5
     obtain rfl := Option.some.inj H
     go_enter Try.func5, Try.ntmps5
     go_wp2_with (first | ((with_reducible refine gate_dst (N := 2) rfl ?_); refine box_event ?hg (N := 2) ?hd (cs := #[.int .i64 a0_0, .int .u64 a0_1]) (t := 24) ?hr ?_; (case hd => rfl); (case hg => rfl); (case hr => first | (go_simp; done) | (go_simp; rfl)); intro gb223 hg w6 hbox hb; have n0_ := am (below_step (by repeat (first | (with_reducible first | exact HB.out | apply dA | apply dB | apply dC) | exact HB.out)) hb); have n1_ := am (hbox); have n2_ := am ((by rw [hg]; exact (below_size (by repeat (first | (with_reducible first | exact HB.out | apply dA | apply dB | apply dC) | exact HB.out))) : w.heap.size ≤ gb223)); have n3_ := am ((by rw [hg]; exact (below_size (by repeat (first | (with_reducible first | exact HB.out | apply dA | apply dB | apply dC) | exact HB.out))) : w.heap.size ≤ gb223)); clear HB; have HB := n0_; have BK223 := n1_; have GW223 := n2_; have GE223 := n3_; clear n0_ n1_ n2_ n3_; clear hb hbox hg; have hcz7_0 : w6.cell? ⟨gb223, 0, none⟩ = some (.int .i64 a0_0) := (blk_cell BK223.out 0).trans rfl; have hcz7_1 : w6.cell? ⟨gb223, 1, none⟩ = some (.int .u64 a0_1) := (blk_cell BK223.out 1).trans rfl; have hfz7_0 := blk_frozen BK223.out 0; have hfz7_1 := blk_frozen BK223.out 1) | ((with_reducible refine gate_callee (f := 15) rfl ?_); refine goesL_ (some 16) rfl rfl Try.func15 (by kernel_rfl) rfl #[.agg #[.int .i64 a0_0, .int .u64 a0_1], .int .i64 a1] rfl (by (try simp only [List.map_toArray, List.map_cons, List.map_nil]); first | done | rfl | (simp only [List.length_drop, List.length_take]; rfl)) ?_; (with_reducible refine (micro_Share.calls k a0_0 a0_1 a1 t224 t225 t226 _ A3.out).mono ?_); rintro e w8 ⟨rfl, hb⟩; refine ⟨_, rfl, ?_⟩; have n0_ := am (blk_below (g := gb223) (o := .cells #[.int .i64 a0_0, .int .u64 a0_1] 24 (0, 0)) (by (with_reducible repeat (first | apply bA | apply bB | apply bC)); exact BK223.out) hb); have n1_ := am (below_step (by repeat (first | (with_reducible first | exact HB.out | apply dA | apply dB | apply dC | refine dE ?_ ‹_›) | exact HB.out)) hb); clear BK223; clear HB; have BK223 := n0_; have HB := n1_; clear n0_ n1_; (try clear hb); (try clear hb2); (try clear hk); (try clear hi)) | ((with_reducible refine gate_dst (N := 5) rfl ?_); refine box_event ?hg (N := 5) ?hd (cs := #[.int .i64 0, .int .u64 0]) (t := 24) ?hr ?_; (case hd => rfl); (case hg => rfl); (case hr => first | (go_simp; done) | (go_simp; rfl)); intro gb227 hg w9 hbox hb; have n0_ := am (blk_below (g := gb223) (o := .cells #[.int .i64 a0_0, .int .u64 a0_1] 24 (0, 0)) (by (with_reducible repeat (first | apply bA | apply bB | apply bC)); exact BK223.out) hb); have n1_ := am (below_step (by repeat (first | (with_reducible first | exact HB.out | apply dA | apply dB | apply dC | refine dE ?_ ‹_›) | exact HB.out)) hb); have n2_ := am (hbox); have n3_ := am ((by rw [hg]; exact (below_size (by repeat (first | (with_reducible first | exact HB.out | apply dA | apply dB | apply dC | refine dE ?_ ‹_›) | exact HB.out))) : w.heap.size ≤ gb227)); have n4_ := am ((by rw [hg]; exact (below_size (by repeat (first | (with_reducible first | exact HB.out | apply dA | apply dB | apply dC | refine dE ?_ ‹_›) | exact HB.out))) : w.heap.size ≤ gb227)); have n5_ := am ((by rw [hg]; exact Nat.ne_of_lt (blk_lt (g := gb223) (o := .cells #[.int .i64 a0_0, .int .u64 a0_1] 24 (0, 0)) (by (with_reducible repeat (first | apply bA | apply bB | apply bC)); exact BK223.out)) : gb223 ≠ gb227)); have n6_ := am ((by rw [hg]; exact Nat.ne_of_gt (blk_lt (g := gb223) (o := .cells #[.int .i64 a0_0, .int .u64 a0_1] 24 (0, 0)) (by (with_reducible repeat (first | apply bA | apply bB | apply bC)); exact BK223.out)) : gb227 ≠ gb223)); clear BK223; clear HB; have BK223 := n0_; have HB := n1_; have BK227 := n2_; have GW227 := n3_; have GE227 := n4_; have NB223_227 := n5_; have NB227_223 := n6_; clear n0_ n1_ n2_ n3_ n4_ n5_ n6_; clear hb hbox hg; have hnb10 := NB227_223.out; have hnc10 := NB223_227.out; have hcz11_0 : w9.cell? ⟨gb227, 0, none⟩ = some (.int .i64 0) := (blk_cell BK227.out 0).trans rfl; have hcz11_1 : w9.cell? ⟨gb227, 1, none⟩ = some (.int .u64 0) := (blk_cell BK227.out 1).trans rfl; have hfz11_0 := blk_frozen BK227.out 0; have hfz11_1 := blk_frozen BK227.out 1))
     go_ret
     exact ⟨by first | rfl | (simp [errW_none, errW_some] <;> rfl) | (simp [*, errW_none, errW_some] <;> rfl), by repeat (first | (with_reducible first | exact HB.out | apply dA | apply dB | apply dC | refine dE ?_ ‹_›) | exact HB.out)⟩
   · rw [if_neg c5] at H
     have c5b0 : (t226 == 1) = false := beq_eq_false_iff_ne.mpr c5; have c5b1 : (t226 != 1) = true := bne_iff_ne.mpr c5
     obtain rfl := Option.some.inj H
     go_enter Try.func5, Try.ntmps5
     go_wp2_with (first | ((with_reducible refine gate_dst (N := 2) rfl ?_); refine box_event ?hg (N := 2) ?hd (cs := #[.int .i64 a0_0, .int .u64 a0_1]) (t := 24) ?hr ?_; (case hd => rfl); (case hg => rfl); (case hr => first | (go_simp; done) | (go_simp; rfl)); intro gb223 hg w12 hbox hb; have n0_ := am (below_step (by repeat (first | (with_reducible first | exact HB.out | apply dA | apply dB | apply dC) | exact HB.out)) hb); have n1_ := am (hbox); have n2_ := am ((by rw [hg]; exact (below_size (by repeat (first | (with_reducible first | exact HB.out | apply dA | apply dB | apply dC) | exact HB.out))) : w.heap.size ≤ gb223)); have n3_ := am ((by rw [hg]; exact (below_size (by repeat (first | (with_reducible first | exact HB.out | apply dA | apply dB | apply dC) | exact HB.out))) : w.heap.size ≤ gb223)); clear HB; have HB := n0_; have BK223 := n1_; have GW223 := n2_; have GE223 := n3_; clear n0_ n1_ n2_ n3_; clear hb hbox hg; have hcz13_0 : w12.cell? ⟨gb223, 0, none⟩ = some (.int .i64 a0_0) := (blk_cell BK223.out 0).trans rfl; have hcz13_1 : w12.cell? ⟨gb223, 1, none⟩ = some (.int .u64 a0_1) := (blk_cell BK223.out 1).trans rfl; have hfz13_0 := blk_frozen BK223.out 0; have hfz13_1 := blk_frozen BK223.out 1) | ((with_reducible refine gate_callee (f := 15) rfl ?_); refine goesL_ (some 16) rfl rfl Try.func15 (by kernel_rfl) rfl #[.agg #[.int .i64 a0_0, .int .u64 a0_1], .int .i64 a1] rfl (by (try simp only [List.map_toArray, List.map_cons, List.map_nil]); first | done | rfl | (simp only [List.length_drop, List.length_take]; rfl)) ?_; (with_reducible refine (micro_Share.calls k a0_0 a0_1 a1 t224 t225 t226 _ A3.out).mono ?_); rintro e w14 ⟨rfl, hb⟩; refine ⟨_, rfl, ?_⟩; have n0_ := am (blk_below (g := gb223) (o := .cells #[.int .i64 a0_0, .int .u64 a0_1] 24 (0, 0)) (by (with_reducible repeat (first | apply bA | apply bB | apply bC)); exact BK223.out) hb); have n1_ := am (below_step (by repeat (first | (with_reducible first | exact HB.out | apply dA | apply dB | apply dC | refine dE ?_ ‹_›) | exact HB.out)) hb); clear BK223; clear HB; have BK223 := n0_; have HB := n1_; clear n0_ n1_; (try clear hb); (try clear hb2); (try clear hk); (try clear hi)) | ((with_reducible refine gate_dst (N := 5) rfl ?_); refine box_event ?hg (N := 5) ?hd (cs := #[.int .i64 0, .int .u64 0]) (t := 24) ?hr ?_; (case hd => rfl); (case hg => rfl); (case hr => first | (go_simp; done) | (go_simp; rfl)); intro gb227 hg w15 hbox hb; have n0_ := am (blk_below (g := gb223) (o := .cells #[.int .i64 a0_0, .int .u64 a0_1] 24 (0, 0)) (by (with_reducible repeat (first | apply bA | apply bB | apply bC)); exact BK223.out) hb); have n1_ := am (below_step (by repeat (first | (with_reducible first | exact HB.out | apply dA | apply dB | apply dC | refine dE ?_ ‹_›) | exact HB.out)) hb); have n2_ := am (hbox); have n3_ := am ((by rw [hg]; exact (below_size (by repeat (first | (with_reducible first | exact HB.out | apply dA | apply dB | apply dC | refine dE ?_ ‹_›) | exact HB.out))) : w.heap.size ≤ gb227)); have n4_ := am ((by rw [hg]; exact (below_size (by repeat (first | (with_reducible first | exact HB.out | apply dA | apply dB | apply dC | refine dE ?_ ‹_›) | exact HB.out))) : w.heap.size ≤ gb227)); have n5_ := am ((by rw [hg]; exact Nat.ne_of_lt (blk_lt (g := gb223) (o := .cells #[.int .i64 a0_0, .int .u64 a0_1] 24 (0, 0)) (by (with_reducible repeat (first | apply bA | apply bB | apply bC)); exact BK223.out)) : gb223 ≠ gb227)); have n6_ := am ((by rw [hg]; exact Nat.ne_of_gt (blk_lt (g := gb223) (o := .cells #[.int .i64 a0_0, .int .u64 a0_1] 24 (0, 0)) (by (with_reducible repeat (first | apply bA | apply bB | apply bC)); exact BK223.out)) : gb227 ≠ gb223)); clear BK223; clear HB; have BK223 := n0_; have HB := n1_; have BK227 := n2_; have GW227 := n3_; have GE227 := n4_; have NB223_227 := n5_; have NB227_223 := n6_; clear n0_ n1_ n2_ n3_ n4_ n5_ n6_; clear hb hbox hg; have hnb16 := NB227_223.out; have hnc16 := NB223_227.out; have hcz17_0 : w15.cell? ⟨gb227, 0, none⟩ = some (.int .i64 0) := (blk_cell BK227.out 0).trans rfl; have hcz17_1 : w15.cell? ⟨gb227, 1, none⟩ = some (.int .u64 0) := (blk_cell BK227.out 1).trans rfl; have hfz17_0 := blk_frozen BK227.out 0; have hfz17_1 := blk_frozen BK227.out 1))
     go_ret
     exact ⟨by first | rfl | (simp [errW_none, errW_some] <;> rfl) | (simp [*, errW_none, errW_some] <;> rfl), by repeat (first | (with_reducible first | exact HB.out | apply dA | apply dB | apply dC | refine dE ?_ ‹_›) | exact HB.out)⟩
 · rw [if_neg c4] at H
   have c4b0 : decide (a1 < 1) = false := decide_eq_false c4; clear c4
   replace H := Option.bind_eq_some_iff.mp H
   obtain ⟨⟨t228, t229, t230, t231⟩, A180, H⟩ := H
   replace H : ((tumblerref02_Amount.f t224 t225).bind fun bt233 => ((tumblerref02_Times.f k bt233.1 bt233.2.1 bt233.2.2.1 (IntKind.u64.wrap (a1))).bind fun bt238 => (if t226 = 0 then (if bt233.1 > 0 then (if (bt233.2.2.2 != t231) = true then (tumblerlaw02_MicroRest.j0 k a1 true t228 t229 t230 bt238.1 bt238.2.1 bt238.2.2) else (tumblerlaw02_MicroRest.j0 k a1 bt238.2.2 t228 t229 t230 bt238.1 bt238.2.1 bt238.2.2)) else (if bt233.2.1 > 0 then (if (bt233.2.2.2 != t231) = true then (tumblerlaw02_MicroRest.j0 k a1 true t228 t229 t230 bt238.1 bt238.2.1 bt238.2.2) else (tumblerlaw02_MicroRest.j0 k a1 bt238.2.2 t228 t229 t230 bt238.1 bt238.2.1 bt238.2.2)) else (tumblerlaw02_MicroRest.j0 k a1 bt238.2.2 t228 t229 t230 bt238.1 bt238.2.1 bt238.2.2))) else (tumblerlaw02_MicroRest.j0 k a1 true t228 t229 t230 bt238.1 bt238.2.1 bt238.2.2)))) = some r := H
   have A18 := Aside0.mk A180; clear A180
   replace H := Option.bind_eq_some_iff.mp H
   obtain ⟨⟨t233, t234, t235, t236⟩, A190, H⟩ := H
   replace H : ((tumblerref02_Times.f k t233 t234 t235 (IntKind.u64.wrap (a1))).bind fun bt238 => (if t226 = 0 then (if t233 > 0 then (if (t236 != t231) = true then (tumblerlaw02_MicroRest.j0 k a1 true t228 t229 t230 bt238.1 bt238.2.1 bt238.2.2) else (tumblerlaw02_MicroRest.j0 k a1 bt238.2.2 t228 t229 t230 bt238.1 bt238.2.1 bt238.2.2)) else (if t234 > 0 then (if (t236 != t231) = true then (tumblerlaw02_MicroRest.j0 k a1 true t228 t229 t230 bt238.1 bt238.2.1 bt238.2.2) else (tumblerlaw02_MicroRest.j0 k a1 bt238.2.2 t228 t229 t230 bt238.1 bt238.2.1 bt238.2.2)) else (tumblerlaw02_MicroRest.j0 k a1 bt238.2.2 t228 t229 t230 bt238.1 bt238.2.1 bt238.2.2))) else (tumblerlaw02_MicroRest.j0 k a1 true t228 t229 t230 bt238.1 bt238.2.1 bt238.2.2))) = some r := H
   have A19 := Aside0.mk A190; clear A190
   replace H := Option.bind_eq_some_iff.mp H
   obtain ⟨⟨t238, t239, t240⟩, A200, H⟩ := H
   replace H : (if t226 = 0 then (if t233 > 0 then (if (t236 != t231) = true then (tumblerlaw02_MicroRest.j0 k a1 true t228 t229 t230 t238 t239 t240) else (tumblerlaw02_MicroRest.j0 k a1 t240 t228 t229 t230 t238 t239 t240)) else (if t234 > 0 then (if (t236 != t231) = true then (tumblerlaw02_MicroRest.j0 k a1 true t228 t229 t230 t238 t239 t240) else (tumblerlaw02_MicroRest.j0 k a1 t240 t228 t229 t230 t238 t239 t240)) else (tumblerlaw02_MicroRest.j0 k a1 t240 t228 t229 t230 t238 t239 t240))) else (tumblerlaw02_MicroRest.j0 k a1 true t228 t229 t230 t238 t239 t240)) = some r := H
   have A20 := Aside0.mk A200; clear A200; have HC21 := Aside0.mk H; clear H
   go_enter Try.func5, Try.ntmps5
   go_upto_region 7 with (first | ((with_reducible refine gate_dst (N := 2) rfl ?_); refine box_event ?hg (N := 2) ?hd (cs := #[.int .i64 a0_0, .int .u64 a0_1]) (t := 24) ?hr ?_; (case hd => rfl); (case hg => rfl); (case hr => first | (go_simp; done) | (go_simp; rfl)); intro gb223 hg w22 hbox hb; have n0_ := am (below_step (by repeat (first | (with_reducible first | exact HB.out | apply dA | apply dB | apply dC) | exact HB.out)) hb); have n1_ := am (hbox); have n2_ := am ((by rw [hg]; exact (below_size (by repeat (first | (with_reducible first | exact HB.out | apply dA | apply dB | apply dC) | exact HB.out))) : w.heap.size ≤ gb223)); have n3_ := am ((by rw [hg]; exact (below_size (by repeat (first | (with_reducible first | exact HB.out | apply dA | apply dB | apply dC) | exact HB.out))) : w.heap.size ≤ gb223)); clear HB; have HB := n0_; have BK223 := n1_; have GW223 := n2_; have GE223 := n3_; clear n0_ n1_ n2_ n3_; clear hb hbox hg; have hcz23_0 : w22.cell? ⟨gb223, 0, none⟩ = some (.int .i64 a0_0) := (blk_cell BK223.out 0).trans rfl; have hcz23_1 : w22.cell? ⟨gb223, 1, none⟩ = some (.int .u64 a0_1) := (blk_cell BK223.out 1).trans rfl; have hfz23_0 := blk_frozen BK223.out 0; have hfz23_1 := blk_frozen BK223.out 1) | ((with_reducible refine gate_callee (f := 15) rfl ?_); refine goesL_ (some 16) rfl rfl Try.func15 (by kernel_rfl) rfl #[.agg #[.int .i64 a0_0, .int .u64 a0_1], .int .i64 a1] rfl (by (try simp only [List.map_toArray, List.map_cons, List.map_nil]); first | done | rfl | (simp only [List.length_drop, List.length_take]; rfl)) ?_; (with_reducible refine (micro_Share.calls k a0_0 a0_1 a1 t224 t225 t226 _ A3.out).mono ?_); rintro e w24 ⟨rfl, hb⟩; refine ⟨_, rfl, ?_⟩; have n0_ := am (blk_below (g := gb223) (o := .cells #[.int .i64 a0_0, .int .u64 a0_1] 24 (0, 0)) (by (with_reducible repeat (first | apply bA | apply bB | apply bC)); exact BK223.out) hb); have n1_ := am (below_step (by repeat (first | (with_reducible first | exact HB.out | apply dA | apply dB | apply dC | refine dE ?_ ‹_›) | exact HB.out)) hb); clear BK223; clear HB; have BK223 := n0_; have HB := n1_; clear n0_ n1_; (try clear hb); (try clear hb2); (try clear hk); (try clear hi)) | ((with_reducible refine gate_dst (N := 5) rfl ?_); refine box_event ?hg (N := 5) ?hd (cs := #[.int .i64 0, .int .u64 0]) (t := 24) ?hr ?_; (case hd => rfl); (case hg => rfl); (case hr => first | (go_simp; done) | (go_simp; rfl)); intro gb227 hg w25 hbox hb; have n0_ := am (blk_below (g := gb223) (o := .cells #[.int .i64 a0_0, .int .u64 a0_1] 24 (0, 0)) (by (with_reducible repeat (first | apply bA | apply bB | apply bC)); exact BK223.out) hb); have n1_ := am (below_step (by repeat (first | (with_reducible first | exact HB.out | apply dA | apply dB | apply dC | refine dE ?_ ‹_›) | exact HB.out)) hb); have n2_ := am (hbox); have n3_ := am ((by rw [hg]; exact (below_size (by repeat (first | (with_reducible first | exact HB.out | apply dA | apply dB | apply dC | refine dE ?_ ‹_›) | exact HB.out))) : w.heap.size ≤ gb227)); have n4_ := am ((by rw [hg]; exact (below_size (by repeat (first | (with_reducible first | exact HB.out | apply dA | apply dB | apply dC | refine dE ?_ ‹_›) | exact HB.out))) : w.heap.size ≤ gb227)); have n5_ := am ((by rw [hg]; exact Nat.ne_of_lt (blk_lt (g := gb223) (o := .cells #[.int .i64 a0_0, .int .u64 a0_1] 24 (0, 0)) (by (with_reducible repeat (first | apply bA | apply bB | apply bC)); exact BK223.out)) : gb223 ≠ gb227)); have n6_ := am ((by rw [hg]; exact Nat.ne_of_gt (blk_lt (g := gb223) (o := .cells #[.int .i64 a0_0, .int .u64 a0_1] 24 (0, 0)) (by (with_reducible repeat (first | apply bA | apply bB | apply bC)); exact BK223.out)) : gb227 ≠ gb223)); clear BK223; clear HB; have BK223 := n0_; have HB := n1_; have BK227 := n2_; have GW227 := n3_; have GE227 := n4_; have NB223_227 := n5_; have NB227_223 := n6_; clear n0_ n1_ n2_ n3_ n4_ n5_ n6_; clear hb hbox hg; have hnb26 := NB227_223.out; have hnc26 := NB223_227.out; have hcz27_0 : w25.cell? ⟨gb227, 0, none⟩ = some (.int .i64 0) := (blk_cell BK227.out 0).trans rfl; have hcz27_1 : w25.cell? ⟨gb227, 1, none⟩ = some (.int .u64 0) := (blk_cell BK227.out 1).trans rfl; have hfz27_0 := blk_frozen BK227.out 0; have hfz27_1 := blk_frozen BK227.out 1; have hcz28_0 : w25.cell? ⟨gb223, 0, none⟩ = some (.int .i64 a0_0) := (blk_cell BK223.out 0).trans rfl; have hcz28_1 : w25.cell? ⟨gb223, 1, none⟩ = some (.int .u64 a0_1) := (blk_cell BK223.out 1).trans rfl; have hfz28_0 := blk_frozen BK223.out 0; have hfz28_1 := blk_frozen BK223.out 1) | ((with_reducible refine gate_callee (f := 17) rfl ?_); refine goesL_ (some 30) rfl rfl Try.func17 (by kernel_rfl) rfl #[.agg #[.int .i64 a0_0, .int .u64 a0_1]] rfl (by (try simp only [List.map_toArray, List.map_cons, List.map_nil]); first | done | rfl | (simp only [List.length_drop, List.length_take]; rfl)) ?_; (with_reducible refine (tumblerref02_Amount.calls a0_0 a0_1 t228 t229 t230 t231 _ A18.out).mono ?_); rintro e w29 ⟨rfl, hb⟩; refine ⟨_, rfl, ?_⟩; have n0_ := am (blk_below (g := gb223) (o := .cells #[.int .i64 a0_0, .int .u64 a0_1] 24 (0, 0)) (by (with_reducible repeat (first | apply bA | apply bB | apply bC)); refine blk_far ?_ NB223_227.out _; (with_reducible repeat (first | apply bA | apply bB | apply bC)); refine blk_far ?_ NB223_227.out _; (with_reducible repeat (first | apply bA | apply bB | apply bC)); exact BK223.out) hb); have n1_ := am (blk_below (g := gb227) (o := .cells #[.int .i64 t224, .int .u64 t225] 24 (0, 0)) (by (with_reducible repeat (first | apply bA | apply bB | apply bC)); refine blk_put (cs := #[.int .i64 t224, .int .u64 0]) ?_ 1 _ rfl; (with_reducible repeat (first | apply bA | apply bB | apply bC)); refine blk_put (cs := #[.int .i64 0, .int .u64 0]) ?_ 0 _ rfl; (with_reducible repeat (first | apply bA | apply bB | apply bC)); exact BK227.out) hb); have n2_ := am (below_step (by repeat (first | (with_reducible first | exact HB.out | apply dA | apply dB | apply dC | refine dE ?_ ‹_›) | exact HB.out)) hb); clear BK223; clear BK227; clear HB; have BK223 := n0_; have BK227 := n1_; have HB := n2_; clear n0_ n1_ n2_; (try clear hb); (try clear hb2); (try clear hk); (try clear hi)) | ((with_reducible refine gate_dst (N := 7) rfl ?_); refine box_event ?hg (N := 7) ?hd (cs := #[.int .u64 0, .int .u64 0, .bool false]) (t := 35) ?hr ?_; (case hd => rfl); (case hg => rfl); (case hr => first | (go_simp; done) | (go_simp; rfl)); intro gb232 hg w30 hbox hb; have n0_ := am (blk_below (g := gb223) (o := .cells #[.int .i64 a0_0, .int .u64 a0_1] 24 (0, 0)) (by (with_reducible repeat (first | apply bA | apply bB | apply bC)); exact BK223.out) hb); have n1_ := am (blk_below (g := gb227) (o := .cells #[.int .i64 t224, .int .u64 t225] 24 (0, 0)) (by (with_reducible repeat (first | apply bA | apply bB | apply bC)); exact BK227.out) hb); have n2_ := am (below_step (by repeat (first | (with_reducible first | exact HB.out | apply dA | apply dB | apply dC | refine dE ?_ ‹_›) | exact HB.out)) hb); have n3_ := am (hbox); have n4_ := am ((by rw [hg]; exact (below_size (by repeat (first | (with_reducible first | exact HB.out | apply dA | apply dB | apply dC | refine dE ?_ ‹_›) | exact HB.out))) : w.heap.size ≤ gb232)); have n5_ := am ((by rw [hg]; exact (below_size (by repeat (first | (with_reducible first | exact HB.out | apply dA | apply dB | apply dC | refine dE ?_ ‹_›) | exact HB.out))) : w.heap.size ≤ gb232)); have n6_ := am ((by rw [hg]; exact Nat.ne_of_lt (blk_lt (g := gb223) (o := .cells #[.int .i64 a0_0, .int .u64 a0_1] 24 (0, 0)) (by (with_reducible repeat (first | apply bA | apply bB | apply bC)); exact BK223.out)) : gb223 ≠ gb232)); have n7_ := am ((by rw [hg]; exact Nat.ne_of_gt (blk_lt (g := gb223) (o := .cells #[.int .i64 a0_0, .int .u64 a0_1] 24 (0, 0)) (by (with_reducible repeat (first | apply bA | apply bB | apply bC)); exact BK223.out)) : gb232 ≠ gb223)); have n8_ := am ((by rw [hg]; exact Nat.ne_of_lt (blk_lt (g := gb227) (o := .cells #[.int .i64 t224, .int .u64 t225] 24 (0, 0)) (by (with_reducible repeat (first | apply bA | apply bB | apply bC)); exact BK227.out)) : gb227 ≠ gb232)); have n9_ := am ((by rw [hg]; exact Nat.ne_of_gt (blk_lt (g := gb227) (o := .cells #[.int .i64 t224, .int .u64 t225] 24 (0, 0)) (by (with_reducible repeat (first | apply bA | apply bB | apply bC)); exact BK227.out)) : gb232 ≠ gb227)); clear BK223; clear BK227; clear HB; have BK223 := n0_; have BK227 := n1_; have HB := n2_; have BK232 := n3_; have GW232 := n4_; have GE232 := n5_; have NB223_232 := n6_; have NB232_223 := n7_; have NB227_232 := n8_; have NB232_227 := n9_; clear n0_ n1_ n2_ n3_ n4_ n5_ n6_ n7_ n8_ n9_; clear hb hbox hg; have hnb31 := NB232_223.out; have hnc31 := NB223_232.out; have hnb32 := NB232_227.out; have hnc32 := NB227_232.out; have hcz33_0 : w30.cell? ⟨gb232, 0, none⟩ = some (.int .u64 0) := (blk_cell BK232.out 0).trans rfl; have hcz33_1 : w30.cell? ⟨gb232, 1, none⟩ = some (.int .u64 0) := (blk_cell BK232.out 1).trans rfl; have hcz33_2 : w30.cell? ⟨gb232, 2, none⟩ = some (.bool false) := (blk_cell BK232.out 2).trans rfl; have hfz33_0 := blk_frozen BK232.out 0; have hfz33_1 := blk_frozen BK232.out 1; have hfz33_2 := blk_frozen BK232.out 2; have hcz34_0 : w30.cell? ⟨gb227, 0, none⟩ = some (.int .i64 t224) := (blk_cell BK227.out 0).trans rfl; have hcz34_1 : w30.cell? ⟨gb227, 1, none⟩ = some (.int .u64 t225) := (blk_cell BK227.out 1).trans rfl; have hfz34_0 := blk_frozen BK227.out 0; have hfz34_1 := blk_frozen BK227.out 1) | ((with_reducible refine gate_callee (f := 17) rfl ?_); refine goesL_ (some 35) rfl rfl Try.func17 (by kernel_rfl) rfl #[.agg #[.int .i64 t224, .int .u64 t225]] rfl (by (try simp only [List.map_toArray, List.map_cons, List.map_nil]); first | done | rfl | (simp only [List.length_drop, List.length_take]; rfl)) ?_; (with_reducible refine (tumblerref02_Amount.calls t224 t225 t233 t234 t235 t236 _ A19.out).mono ?_); rintro e w35 ⟨rfl, hb⟩; refine ⟨_, rfl, ?_⟩; have n0_ := am (blk_below (g := gb223) (o := .cells #[.int .i64 a0_0, .int .u64 a0_1] 24 (0, 0)) (by (with_reducible repeat (first | apply bA | apply bB | apply bC)); refine blk_far ?_ NB223_232.out _; (with_reducible repeat (first | apply bA | apply bB | apply bC)); refine blk_far ?_ NB223_232.out _; (with_reducible repeat (first | apply bA | apply bB | apply bC)); refine blk_far ?_ NB223_232.out _; (with_reducible repeat (first | apply bA | apply bB | apply bC)); exact BK223.out) hb); have n1_ := am (blk_below (g := gb227) (o := .cells #[.int .i64 t224, .int .u64 t225] 24 (0, 0)) (by (with_reducible repeat (first | apply bA | apply bB | apply bC)); refine blk_far ?_ NB227_232.out _; (with_reducible repeat (first | apply bA | apply bB | apply bC)); refine blk_far ?_ NB227_232.out _; (with_reducible repeat (first | apply bA | apply bB | apply bC)); refine blk_far ?_ NB227_232.out _; (with_reducible repeat (first | apply bA | apply bB | apply bC)); exact BK227.out) hb); have n2_ := am (blk_below (g := gb232) (o := .cells #[.int .u64 t228, .int .u64 t229, .bool t230] 35 (0, 0)) (by (with_reducible repeat (first | apply bA | apply bB | apply bC)); refine blk_put (cs := #[.int .u64 t228, .int .u64 t229, .bool false]) ?_ 2 _ rfl; (with_reducible repeat (first | apply bA | apply bB | apply bC)); refine blk_put (cs := #[.int .u64 t228, .int .u64 0, .bool false]) ?_ 1 _ rfl; (with_reducible repeat (first | apply bA | apply bB | apply bC)); refine blk_put (cs := #[.int .u64 0, .int .u64 0, .bool false]) ?_ 0 _ rfl; (with_reducible repeat (first | apply bA | apply bB | apply bC)); exact BK232.out) hb); have n3_ := am (below_step (by repeat (first | (with_reducible first | exact HB.out | apply dA | apply dB | apply dC | refine dE ?_ ‹_›) | exact HB.out)) hb); clear BK223; clear BK227; clear BK232; clear HB; have BK223 := n0_; have BK227 := n1_; have BK232 := n2_; have HB := n3_; clear n0_ n1_ n2_ n3_; (try clear hb); (try clear hb2); (try clear hk); (try clear hi)) | ((with_reducible refine gate_dst (N := 9) rfl ?_); refine box_event ?hg (N := 9) ?hd (cs := #[.int .u64 0, .int .u64 0, .bool false]) (t := 35) ?hr ?_; (case hd => rfl); (case hg => rfl); (case hr => first | (go_simp; done) | (go_simp; rfl)); intro gb237 hg w36 hbox hb; have n0_ := am (blk_below (g := gb223) (o := .cells #[.int .i64 a0_0, .int .u64 a0_1] 24 (0, 0)) (by (with_reducible repeat (first | apply bA | apply bB | apply bC)); exact BK223.out) hb); have n1_ := am (blk_below (g := gb227) (o := .cells #[.int .i64 t224, .int .u64 t225] 24 (0, 0)) (by (with_reducible repeat (first | apply bA | apply bB | apply bC)); exact BK227.out) hb); have n2_ := am (blk_below (g := gb232) (o := .cells #[.int .u64 t228, .int .u64 t229, .bool t230] 35 (0, 0)) (by (with_reducible repeat (first | apply bA | apply bB | apply bC)); exact BK232.out) hb); have n3_ := am (below_step (by repeat (first | (with_reducible first | exact HB.out | apply dA | apply dB | apply dC | refine dE ?_ ‹_›) | exact HB.out)) hb); have n4_ := am (hbox); have n5_ := am ((by rw [hg]; exact (below_size (by repeat (first | (with_reducible first | exact HB.out | apply dA | apply dB | apply dC | refine dE ?_ ‹_›) | exact HB.out))) : w.heap.size ≤ gb237)); have n6_ := am ((by rw [hg]; exact (below_size (by repeat (first | (with_reducible first | exact HB.out | apply dA | apply dB | apply dC | refine dE ?_ ‹_›) | exact HB.out))) : w.heap.size ≤ gb237)); have n7_ := am ((by rw [hg]; exact Nat.ne_of_lt (blk_lt (g := gb223) (o := .cells #[.int .i64 a0_0, .int .u64 a0_1] 24 (0, 0)) (by (with_reducible repeat (first | apply bA | apply bB | apply bC)); exact BK223.out)) : gb223 ≠ gb237)); have n8_ := am ((by rw [hg]; exact Nat.ne_of_gt (blk_lt (g := gb223) (o := .cells #[.int .i64 a0_0, .int .u64 a0_1] 24 (0, 0)) (by (with_reducible repeat (first | apply bA | apply bB | apply bC)); exact BK223.out)) : gb237 ≠ gb223)); have n9_ := am ((by rw [hg]; exact Nat.ne_of_lt (blk_lt (g := gb227) (o := .cells #[.int .i64 t224, .int .u64 t225] 24 (0, 0)) (by (with_reducible repeat (first | apply bA | apply bB | apply bC)); exact BK227.out)) : gb227 ≠ gb237)); have n10_ := am ((by rw [hg]; exact Nat.ne_of_gt (blk_lt (g := gb227) (o := .cells #[.int .i64 t224, .int .u64 t225] 24 (0, 0)) (by (with_reducible repeat (first | apply bA | apply bB | apply bC)); exact BK227.out)) : gb237 ≠ gb227)); have n11_ := am ((by rw [hg]; exact Nat.ne_of_lt (blk_lt (g := gb232) (o := .cells #[.int .u64 t228, .int .u64 t229, .bool t230] 35 (0, 0)) (by (with_reducible repeat (first | apply bA | apply bB | apply bC)); exact BK232.out)) : gb232 ≠ gb237)); have n12_ := am ((by rw [hg]; exact Nat.ne_of_gt (blk_lt (g := gb232) (o := .cells #[.int .u64 t228, .int .u64 t229, .bool t230] 35 (0, 0)) (by (with_reducible repeat (first | apply bA | apply bB | apply bC)); exact BK232.out)) : gb237 ≠ gb232)); clear BK223; clear BK227; clear BK232; clear HB; have BK223 := n0_; have BK227 := n1_; have BK232 := n2_; have HB := n3_; have BK237 := n4_; have GW237 := n5_; have GE237 := n6_; have NB223_237 := n7_; have NB237_223 := n8_; have NB227_237 := n9_; have NB237_227 := n10_; have NB232_237 := n11_; have NB237_232 := n12_; clear n0_ n1_ n2_ n3_ n4_ n5_ n6_ n7_ n8_ n9_ n10_ n11_ n12_; clear hb hbox hg; have hnb37 := NB237_223.out; have hnc37 := NB223_237.out; have hnb38 := NB237_227.out; have hnc38 := NB227_237.out; have hnb39 := NB237_232.out; have hnc39 := NB232_237.out; have hcz40_0 : w36.cell? ⟨gb237, 0, none⟩ = some (.int .u64 0) := (blk_cell BK237.out 0).trans rfl; have hcz40_1 : w36.cell? ⟨gb237, 1, none⟩ = some (.int .u64 0) := (blk_cell BK237.out 1).trans rfl; have hcz40_2 : w36.cell? ⟨gb237, 2, none⟩ = some (.bool false) := (blk_cell BK237.out 2).trans rfl; have hfz40_0 := blk_frozen BK237.out 0; have hfz40_1 := blk_frozen BK237.out 1; have hfz40_2 := blk_frozen BK237.out 2) | ((with_reducible refine gate_callee (f := 18) rfl ?_); refine goesL_ (some 41) rfl rfl Try.func18 (by kernel_rfl) rfl #[.agg #[.int .u64 t233, .int .u64 t234, .bool t235], .int .u64 (IntKind.u64.wrap (a1))] rfl (by (try simp only [List.map_toArray, List.map_cons, List.map_nil]); first | done | rfl | (simp only [List.length_drop, List.length_take]; rfl)) ?_; (with_reducible refine (tumblerref02_Times.calls k t233 t234 t235 (IntKind.u64.wrap (a1)) t238 t239 t240 _ A20.out).mono ?_); rintro e w41 ⟨rfl, hb⟩; refine ⟨_, rfl, ?_⟩; have n0_ := am (blk_below (g := gb223) (o := .cells #[.int .i64 a0_0, .int .u64 a0_1] 24 (0, 0)) (by (with_reducible repeat (first | apply bA | apply bB | apply bC)); refine blk_far ?_ NB223_237.out _; (with_reducible repeat (first | apply bA | apply bB | apply bC)); refine blk_far ?_ NB223_237.out _; (with_reducible repeat (first | apply bA | apply bB | apply bC)); refine blk_far ?_ NB223_237.out _; (with_reducible repeat (first | apply bA | apply bB | apply bC)); exact BK223.out) hb); have n1_ := am (blk_below (g := gb227) (o := .cells #[.int .i64 t224, .int .u64 t225] 24 (0, 0)) (by (with_reducible repeat (first | apply bA | apply bB | apply bC)); refine blk_far ?_ NB227_237.out _; (with_reducible repeat (first | apply bA | apply bB | apply bC)); refine blk_far ?_ NB227_237.out _; (with_reducible repeat (first | apply bA | apply bB | apply bC)); refine blk_far ?_ NB227_237.out _; (with_reducible repeat (first | apply bA | apply bB | apply bC)); exact BK227.out) hb); have n2_ := am (blk_below (g := gb232) (o := .cells #[.int .u64 t228, .int .u64 t229, .bool t230] 35 (0, 0)) (by (with_reducible repeat (first | apply bA | apply bB | apply bC)); refine blk_far ?_ NB232_237.out _; (with_reducible repeat (first | apply bA | apply bB | apply bC)); refine blk_far ?_ NB232_237.out _; (with_reducible repeat (first | apply bA | apply bB | apply bC)); refine blk_far ?_ NB232_237.out _; (with_reducible repeat (first | apply bA | apply bB | apply bC)); exact BK232.out) hb); have n3_ := am (blk_below (g := gb237) (o := .cells #[.int .u64 t233, .int .u64 t234, .bool t235] 35 (0, 0)) (by (with_reducible repeat (first | apply bA | apply bB | apply bC)); refine blk_put (cs := #[.int .u64 t233, .int .u64 t234, .bool false]) ?_ 2 _ rfl; (with_reducible repeat (first | apply bA | apply bB | apply bC)); refine blk_put (cs := #[.int .u64 t233, .int .u64 0, .bool false]) ?_ 1 _ rfl; (with_reducible repeat (first | apply bA | apply bB | apply bC)); refine blk_put (cs := #[.int .u64 0, .int .u64 0, .bool false]) ?_ 0 _ rfl; (with_reducible repeat (first | apply bA | apply bB | apply bC)); exact BK237.out) hb); have n4_ := am (below_step (by repeat (first | (with_reducible first | exact HB.out | apply dA | apply dB | apply dC | refine dE ?_ ‹_›) | exact HB.out)) hb); clear BK223; clear BK227; clear BK232; clear BK237; clear HB; have BK223 := n0_; have BK227 := n1_; have BK232 := n2_; have BK237 := n3_; have HB := n4_; clear n0_ n1_ n2_ n3_ n4_; (try clear hb); (try clear hb2); (try clear hk); (try clear hi)) | ((with_reducible refine gate_dst (N := 11) rfl ?_); refine box_event ?hg (N := 11) ?hd (cs := #[.int .u64 0, .int .u64 0, .bool false]) (t := 35) ?hr ?_; (case hd => rfl); (case hg => rfl); (case hr => first | (go_simp; done) | (go_simp; rfl)); intro gb241 hg w42 hbox hb; have n0_ := am (blk_below (g := gb223) (o := .cells #[.int .i64 a0_0, .int .u64 a0_1] 24 (0, 0)) (by (with_reducible repeat (first | apply bA | apply bB | apply bC)); exact BK223.out) hb); have n1_ := am (blk_below (g := gb227) (o := .cells #[.int .i64 t224, .int .u64 t225] 24 (0, 0)) (by (with_reducible repeat (first | apply bA | apply bB | apply bC)); exact BK227.out) hb); have n2_ := am (blk_below (g := gb232) (o := .cells #[.int .u64 t228, .int .u64 t229, .bool t230] 35 (0, 0)) (by (with_reducible repeat (first | apply bA | apply bB | apply bC)); exact BK232.out) hb); have n3_ := am (blk_below (g := gb237) (o := .cells #[.int .u64 t233, .int .u64 t234, .bool t235] 35 (0, 0)) (by (with_reducible repeat (first | apply bA | apply bB | apply bC)); exact BK237.out) hb); have n4_ := am (below_step (by repeat (first | (with_reducible first | exact HB.out | apply dA | apply dB | apply dC | refine dE ?_ ‹_›) | exact HB.out)) hb); have n5_ := am (hbox); have n6_ := am ((by rw [hg]; exact (below_size (by repeat (first | (with_reducible first | exact HB.out | apply dA | apply dB | apply dC | refine dE ?_ ‹_›) | exact HB.out))) : w.heap.size ≤ gb241)); have n7_ := am ((by rw [hg]; exact (below_size (by repeat (first | (with_reducible first | exact HB.out | apply dA | apply dB | apply dC | refine dE ?_ ‹_›) | exact HB.out))) : w.heap.size ≤ gb241)); have n8_ := am ((by rw [hg]; exact Nat.ne_of_lt (blk_lt (g := gb223) (o := .cells #[.int .i64 a0_0, .int .u64 a0_1] 24 (0, 0)) (by (with_reducible repeat (first | apply bA | apply bB | apply bC)); exact BK223.out)) : gb223 ≠ gb241)); have n9_ := am ((by rw [hg]; exact Nat.ne_of_gt (blk_lt (g := gb223) (o := .cells #[.int .i64 a0_0, .int .u64 a0_1] 24 (0, 0)) (by (with_reducible repeat (first | apply bA | apply bB | apply bC)); exact BK223.out)) : gb241 ≠ gb223)); have n10_ := am ((by rw [hg]; exact Nat.ne_of_lt (blk_lt (g := gb227) (o := .cells #[.int .i64 t224, .int .u64 t225] 24 (0, 0)) (by (with_reducible repeat (first | apply bA | apply bB | apply bC)); exact BK227.out)) : gb227 ≠ gb241)); have n11_ := am ((by rw [hg]; exact Nat.ne_of_gt (blk_lt (g := gb227) (o := .cells #[.int .i64 t224, .int .u64 t225] 24 (0, 0)) (by (with_reducible repeat (first | apply bA | apply bB | apply bC)); exact BK227.out)) : gb241 ≠ gb227)); have n12_ := am ((by rw [hg]; exact Nat.ne_of_lt (blk_lt (g := gb232) (o := .cells #[.int .u64 t228, .int .u64 t229, .bool t230] 35 (0, 0)) (by (with_reducible repeat (first | apply bA | apply bB | apply bC)); exact BK232.out)) : gb232 ≠ gb241)); have n13_ := am ((by rw [hg]; exact Nat.ne_of_gt (blk_lt (g := gb232) (o := .cells #[.int .u64 t228, .int .u64 t229, .bool t230] 35 (0, 0)) (by (with_reducible repeat (first | apply bA | apply bB | apply bC)); exact BK232.out)) : gb241 ≠ gb232)); have n14_ := am ((by rw [hg]; exact Nat.ne_of_lt (blk_lt (g := gb237) (o := .cells #[.int .u64 t233, .int .u64 t234, .bool t235] 35 (0, 0)) (by (with_reducible repeat (first | apply bA | apply bB | apply bC)); exact BK237.out)) : gb237 ≠ gb241)); have n15_ := am ((by rw [hg]; exact Nat.ne_of_gt (blk_lt (g := gb237) (o := .cells #[.int .u64 t233, .int .u64 t234, .bool t235] 35 (0, 0)) (by (with_reducible repeat (first | apply bA | apply bB | apply bC)); exact BK237.out)) : gb241 ≠ gb237)); clear BK223; clear BK227; clear BK232; clear BK237; clear HB; have BK223 := n0_; have BK227 := n1_; have BK232 := n2_; have BK237 := n3_; have HB := n4_; have BK241 := n5_; have GW241 := n6_; have GE241 := n7_; have NB223_241 := n8_; have NB241_223 := n9_; have NB227_241 := n10_; have NB241_227 := n11_; have NB232_241 := n12_; have NB241_232 := n13_; have NB237_241 := n14_; have NB241_237 := n15_; clear n0_ n1_ n2_ n3_ n4_ n5_ n6_ n7_ n8_ n9_ n10_ n11_ n12_ n13_ n14_ n15_; clear hb hbox hg; have hnb43 := NB241_223.out; have hnc43 := NB223_241.out; have hnb44 := NB241_227.out; have hnc44 := NB227_241.out; have hnb45 := NB241_232.out; have hnc45 := NB232_241.out; have hnb46 := NB241_237.out; have hnc46 := NB237_241.out; have hcz47_0 : w42.cell? ⟨gb241, 0, none⟩ = some (.int .u64 0) := (blk_cell BK241.out 0).trans rfl; have hcz47_1 : w42.cell? ⟨gb241, 1, none⟩ = some (.int .u64 0) := (blk_cell BK241.out 1).trans rfl; have hcz47_2 : w42.cell? ⟨gb241, 2, none⟩ = some (.bool false) := (blk_cell BK241.out 2).trans rfl; have hfz47_0 := blk_frozen BK241.out 0; have hfz47_1 := blk_frozen BK241.out 1; have hfz47_2 := blk_frozen BK241.out 2))
   (try simp only [Act.put, List.setIfInBounds_toArray, List.set_cons_zero, List.set_cons_succ])
   go_cut [62] (fun v62 wc => ∃ (kq : Nat) (x62_20 : Bool), v62 = .bool x62_20 ∧ Aside0 (tumblerlaw02_MicroRest.j0 kq a1 x62_20 t228 t229 t230 t238 t239 t240 = some r) ∧ Aside0 (kq ≤ k) ∧ Aside0 (wc.heap[gb223]? = some (.cells #[.int .i64 a0_0, .int .u64 a0_1] 24 (0, 0))) ∧ Aside0 (wc.heap[gb227]? = some (.cells #[.int .i64 t224, .int .u64 t225] 24 (0, 0))) ∧ Aside0 (wc.heap[gb232]? = some (.cells #[.int .u64 t228, .int .u64 t229, .bool t230] 35 (0, 0))) ∧ Aside0 (wc.heap[gb237]? = some (.cells #[.int .u64 t233, .int .u64 t234, .bool t235] 35 (0, 0))) ∧ Aside0 (wc.heap[gb241]? = some (.cells #[.int .u64 t238, .int .u64 t239, .bool t240] 35 (0, 0))) ∧ Aside0 (Below w.heap.size w wc))
   case first =>
    have H := HC21.out; clear HC21
    by_cases c48 : t226 = 0
    · rw [if_pos c48] at H
      have c48b0 : (t226 == 0) = true := beq_iff_eq.mpr c48; have c48b1 : (t226 != 0) = false := bne_eq_false_iff_eq.mpr c48; clear c48
      (first | rw [c48b0] | (simp only [i64_w, i32_w]; rw [c48b0]) | skip)
      by_cases c49 : t233 > 0
      · rw [if_pos c49] at H
        have c49b0 : decide (0 < t233) = true := decide_eq_true c49; clear c49
        by_cases c50 : (t236 != t231) = true
        · rw [if_pos c50] at H
          have c50b0 : (t236 != t231) = true := c50; (try (have c50b1 : decide (t236 = t231) = false := by simpa using c50)); (try (have c50b2 : (t236 == t231) = false := by simpa using c50)); (try (have c50b3 : ¬ (t236 = t231) := by simpa using c50)); clear c50; have H' := Aside0.mk H; clear H; have hnb51 := NB237_223.out; have hnc51 := NB223_237.out; have hnb52 := NB237_227.out; have hnc52 := NB227_237.out; have hnb53 := NB237_232.out; have hnc53 := NB232_237.out; have hnb54 := NB237_241.out; have hnc54 := NB241_237.out; have hcz55_0 : w42.cell? ⟨gb237, 0, none⟩ = some (.int .u64 t233) := (blk_cell BK237.out 0).trans rfl; have hcz55_1 : w42.cell? ⟨gb237, 1, none⟩ = some (.int .u64 t234) := (blk_cell BK237.out 1).trans rfl; have hcz55_2 : w42.cell? ⟨gb237, 2, none⟩ = some (.bool t235) := (blk_cell BK237.out 2).trans rfl; have hfz55_0 := blk_frozen BK237.out 0; have hfz55_1 := blk_frozen BK237.out 1; have hfz55_2 := blk_frozen BK237.out 2
          go_wp2
          go_meet
          case rel => exact ⟨_, (true), (by first | rfl | (simp; done) | (simp [*]; done)), H', ⟨by first | omega | exact Nat.le_refl _⟩, ⟨by (with_reducible repeat (first | apply bA | apply bB | apply bC)); refine blk_far ?_ NB223_241.out _; (with_reducible repeat (first | apply bA | apply bB | apply bC)); refine blk_far ?_ NB223_241.out _; (with_reducible repeat (first | apply bA | apply bB | apply bC)); refine blk_far ?_ NB223_241.out _; (with_reducible repeat (first | apply bA | apply bB | apply bC)); exact BK223.out⟩, ⟨by (with_reducible repeat (first | apply bA | apply bB | apply bC)); refine blk_far ?_ NB227_241.out _; (with_reducible repeat (first | apply bA | apply bB | apply bC)); refine blk_far ?_ NB227_241.out _; (with_reducible repeat (first | apply bA | apply bB | apply bC)); refine blk_far ?_ NB227_241.out _; (with_reducible repeat (first | apply bA | apply bB | apply bC)); exact BK227.out⟩, ⟨by (with_reducible repeat (first | apply bA | apply bB | apply bC)); refine blk_far ?_ NB232_241.out _; (with_reducible repeat (first | apply bA | apply bB | apply bC)); refine blk_far ?_ NB232_241.out _; (with_reducible repeat (first | apply bA | apply bB | apply bC)); refine blk_far ?_ NB232_241.out _; (with_reducible repeat (first | apply bA | apply bB | apply bC)); exact BK232.out⟩, ⟨by (with_reducible repeat (first | apply bA | apply bB | apply bC)); refine blk_far ?_ NB237_241.out _; (with_reducible repeat (first | apply bA | apply bB | apply bC)); refine blk_far ?_ NB237_241.out _; (with_reducible repeat (first | apply bA | apply bB | apply bC)); refine blk_far ?_ NB237_241.out _; (with_reducible repeat (first | apply bA | apply bB | apply bC)); exact BK237.out⟩, ⟨by (with_reducible repeat (first | apply bA | apply bB | apply bC)); refine blk_put (cs := #[.int .u64 t238, .int .u64 t239, .bool false]) ?_ 2 _ rfl; (with_reducible repeat (first | apply bA | apply bB | apply bC)); refine blk_put (cs := #[.int .u64 t238, .int .u64 0, .bool false]) ?_ 1 _ rfl; (with_reducible repeat (first | apply bA | apply bB | apply bC)); refine blk_put (cs := #[.int .u64 0, .int .u64 0, .bool false]) ?_ 0 _ rfl; (with_reducible repeat (first | apply bA | apply bB | apply bC)); exact BK241.out⟩, ⟨by repeat (first | (with_reducible first | exact HB.out | apply dA | apply dB | apply dC | refine dE ?_ ‹_›) | exact HB.out)⟩⟩
        · rw [if_neg c50] at H
          have c50b0 : (t236 != t231) = false := by simpa using c50
          (try (have c50b1 : decide (t236 = t231) = true := by simpa using c50)); (try (have c50b2 : (t236 == t231) = true := by simpa using c50)); clear c50; have H' := Aside0.mk H; clear H; have hnb56 := NB237_223.out; have hnc56 := NB223_237.out; have hnb57 := NB237_227.out; have hnc57 := NB227_237.out; have hnb58 := NB237_232.out; have hnc58 := NB232_237.out; have hnb59 := NB237_241.out; have hnc59 := NB241_237.out; have hcz60_0 : w42.cell? ⟨gb237, 0, none⟩ = some (.int .u64 t233) := (blk_cell BK237.out 0).trans rfl; have hcz60_1 : w42.cell? ⟨gb237, 1, none⟩ = some (.int .u64 t234) := (blk_cell BK237.out 1).trans rfl; have hcz60_2 : w42.cell? ⟨gb237, 2, none⟩ = some (.bool t235) := (blk_cell BK237.out 2).trans rfl; have hfz60_0 := blk_frozen BK237.out 0; have hfz60_1 := blk_frozen BK237.out 1; have hfz60_2 := blk_frozen BK237.out 2; have hnb61 := NB241_223.out; have hnc61 := NB223_241.out; have hnb62 := NB241_227.out; have hnc62 := NB227_241.out; have hnb63 := NB241_232.out; have hnc63 := NB232_241.out; have hcz64_0 : w42.cell? ⟨gb241, 0, none⟩ = some (.int .u64 0) := (blk_cell BK241.out 0).trans rfl; have hcz64_1 : w42.cell? ⟨gb241, 1, none⟩ = some (.int .u64 0) := (blk_cell BK241.out 1).trans rfl; have hcz64_2 : w42.cell? ⟨gb241, 2, none⟩ = some (.bool false) := (blk_cell BK241.out 2).trans rfl; have hfz64_0 := blk_frozen BK241.out 0; have hfz64_1 := blk_frozen BK241.out 1; have hfz64_2 := blk_frozen BK241.out 2
          go_wp2
          go_meet
          case rel => exact ⟨_, (t240), (by first | rfl | (simp; done) | (simp [*]; done)), H', ⟨by first | omega | exact Nat.le_refl _⟩, ⟨by (with_reducible repeat (first | apply bA | apply bB | apply bC)); refine blk_far ?_ NB223_241.out _; (with_reducible repeat (first | apply bA | apply bB | apply bC)); refine blk_far ?_ NB223_241.out _; (with_reducible repeat (first | apply bA | apply bB | apply bC)); refine blk_far ?_ NB223_241.out _; (with_reducible repeat (first | apply bA | apply bB | apply bC)); exact BK223.out⟩, ⟨by (with_reducible repeat (first | apply bA | apply bB | apply bC)); refine blk_far ?_ NB227_241.out _; (with_reducible repeat (first | apply bA | apply bB | apply bC)); refine blk_far ?_ NB227_241.out _; (with_reducible repeat (first | apply bA | apply bB | apply bC)); refine blk_far ?_ NB227_241.out _; (with_reducible repeat (first | apply bA | apply bB | apply bC)); exact BK227.out⟩, ⟨by (with_reducible repeat (first | apply bA | apply bB | apply bC)); refine blk_far ?_ NB232_241.out _; (with_reducible repeat (first | apply bA | apply bB | apply bC)); refine blk_far ?_ NB232_241.out _; (with_reducible repeat (first | apply bA | apply bB | apply bC)); refine blk_far ?_ NB232_241.out _; (with_reducible repeat (first | apply bA | apply bB | apply bC)); exact BK232.out⟩, ⟨by (with_reducible repeat (first | apply bA | apply bB | apply bC)); refine blk_far ?_ NB237_241.out _; (with_reducible repeat (first | apply bA | apply bB | apply bC)); refine blk_far ?_ NB237_241.out _; (with_reducible repeat (first | apply bA | apply bB | apply bC)); refine blk_far ?_ NB237_241.out _; (with_reducible repeat (first | apply bA | apply bB | apply bC)); exact BK237.out⟩, ⟨by (with_reducible repeat (first | apply bA | apply bB | apply bC)); refine blk_put (cs := #[.int .u64 t238, .int .u64 t239, .bool false]) ?_ 2 _ rfl; (with_reducible repeat (first | apply bA | apply bB | apply bC)); refine blk_put (cs := #[.int .u64 t238, .int .u64 0, .bool false]) ?_ 1 _ rfl; (with_reducible repeat (first | apply bA | apply bB | apply bC)); refine blk_put (cs := #[.int .u64 0, .int .u64 0, .bool false]) ?_ 0 _ rfl; (with_reducible repeat (first | apply bA | apply bB | apply bC)); exact BK241.out⟩, ⟨by repeat (first | (with_reducible first | exact HB.out | apply dA | apply dB | apply dC | refine dE ?_ ‹_›) | exact HB.out)⟩⟩
      · rw [if_neg c49] at H
        have c49b0 : decide (0 < t233) = false := decide_eq_false c49; clear c49
        by_cases c65 : t234 > 0
        · rw [if_pos c65] at H
          have c65b0 : decide (0 < t234) = true := decide_eq_true c65; clear c65
          by_cases c66 : (t236 != t231) = true
          · rw [if_pos c66] at H
            have c66b0 : (t236 != t231) = true := c66; (try (have c66b1 : decide (t236 = t231) = false := by simpa using c66)); (try (have c66b2 : (t236 == t231) = false := by simpa using c66)); (try (have c66b3 : ¬ (t236 = t231) := by simpa using c66)); clear c66; have H' := Aside0.mk H; clear H; have hnb67 := NB237_223.out; have hnc67 := NB223_237.out; have hnb68 := NB237_227.out; have hnc68 := NB227_237.out; have hnb69 := NB237_232.out; have hnc69 := NB232_237.out; have hnb70 := NB237_241.out; have hnc70 := NB241_237.out; have hcz71_0 : w42.cell? ⟨gb237, 0, none⟩ = some (.int .u64 t233) := (blk_cell BK237.out 0).trans rfl; have hcz71_1 : w42.cell? ⟨gb237, 1, none⟩ = some (.int .u64 t234) := (blk_cell BK237.out 1).trans rfl; have hcz71_2 : w42.cell? ⟨gb237, 2, none⟩ = some (.bool t235) := (blk_cell BK237.out 2).trans rfl; have hfz71_0 := blk_frozen BK237.out 0; have hfz71_1 := blk_frozen BK237.out 1; have hfz71_2 := blk_frozen BK237.out 2
            go_wp2
            go_meet
            case rel => exact ⟨_, (true), (by first | rfl | (simp; done) | (simp [*]; done)), H', ⟨by first | omega | exact Nat.le_refl _⟩, ⟨by (with_reducible repeat (first | apply bA | apply bB | apply bC)); refine blk_far ?_ NB223_241.out _; (with_reducible repeat (first | apply bA | apply bB | apply bC)); refine blk_far ?_ NB223_241.out _; (with_reducible repeat (first | apply bA | apply bB | apply bC)); refine blk_far ?_ NB223_241.out _; (with_reducible repeat (first | apply bA | apply bB | apply bC)); exact BK223.out⟩, ⟨by (with_reducible repeat (first | apply bA | apply bB | apply bC)); refine blk_far ?_ NB227_241.out _; (with_reducible repeat (first | apply bA | apply bB | apply bC)); refine blk_far ?_ NB227_241.out _; (with_reducible repeat (first | apply bA | apply bB | apply bC)); refine blk_far ?_ NB227_241.out _; (with_reducible repeat (first | apply bA | apply bB | apply bC)); exact BK227.out⟩, ⟨by (with_reducible repeat (first | apply bA | apply bB | apply bC)); refine blk_far ?_ NB232_241.out _; (with_reducible repeat (first | apply bA | apply bB | apply bC)); refine blk_far ?_ NB232_241.out _; (with_reducible repeat (first | apply bA | apply bB | apply bC)); refine blk_far ?_ NB232_241.out _; (with_reducible repeat (first | apply bA | apply bB | apply bC)); exact BK232.out⟩, ⟨by (with_reducible repeat (first | apply bA | apply bB | apply bC)); refine blk_far ?_ NB237_241.out _; (with_reducible repeat (first | apply bA | apply bB | apply bC)); refine blk_far ?_ NB237_241.out _; (with_reducible repeat (first | apply bA | apply bB | apply bC)); refine blk_far ?_ NB237_241.out _; (with_reducible repeat (first | apply bA | apply bB | apply bC)); exact BK237.out⟩, ⟨by (with_reducible repeat (first | apply bA | apply bB | apply bC)); refine blk_put (cs := #[.int .u64 t238, .int .u64 t239, .bool false]) ?_ 2 _ rfl; (with_reducible repeat (first | apply bA | apply bB | apply bC)); refine blk_put (cs := #[.int .u64 t238, .int .u64 0, .bool false]) ?_ 1 _ rfl; (with_reducible repeat (first | apply bA | apply bB | apply bC)); refine blk_put (cs := #[.int .u64 0, .int .u64 0, .bool false]) ?_ 0 _ rfl; (with_reducible repeat (first | apply bA | apply bB | apply bC)); exact BK241.out⟩, ⟨by repeat (first | (with_reducible first | exact HB.out | apply dA | apply dB | apply dC | refine dE ?_ ‹_›) | exact HB.out)⟩⟩
          · rw [if_neg c66] at H
            have c66b0 : (t236 != t231) = false := by simpa using c66
            (try (have c66b1 : decide (t236 = t231) = true := by simpa using c66)); (try (have c66b2 : (t236 == t231) = true := by simpa using c66)); clear c66; have H' := Aside0.mk H; clear H; have hnb72 := NB237_223.out; have hnc72 := NB223_237.out; have hnb73 := NB237_227.out; have hnc73 := NB227_237.out; have hnb74 := NB237_232.out; have hnc74 := NB232_237.out; have hnb75 := NB237_241.out; have hnc75 := NB241_237.out; have hcz76_0 : w42.cell? ⟨gb237, 0, none⟩ = some (.int .u64 t233) := (blk_cell BK237.out 0).trans rfl; have hcz76_1 : w42.cell? ⟨gb237, 1, none⟩ = some (.int .u64 t234) := (blk_cell BK237.out 1).trans rfl; have hcz76_2 : w42.cell? ⟨gb237, 2, none⟩ = some (.bool t235) := (blk_cell BK237.out 2).trans rfl; have hfz76_0 := blk_frozen BK237.out 0; have hfz76_1 := blk_frozen BK237.out 1; have hfz76_2 := blk_frozen BK237.out 2; have hnb77 := NB241_223.out; have hnc77 := NB223_241.out; have hnb78 := NB241_227.out; have hnc78 := NB227_241.out; have hnb79 := NB241_232.out; have hnc79 := NB232_241.out; have hcz80_0 : w42.cell? ⟨gb241, 0, none⟩ = some (.int .u64 0) := (blk_cell BK241.out 0).trans rfl; have hcz80_1 : w42.cell? ⟨gb241, 1, none⟩ = some (.int .u64 0) := (blk_cell BK241.out 1).trans rfl; have hcz80_2 : w42.cell? ⟨gb241, 2, none⟩ = some (.bool false) := (blk_cell BK241.out 2).trans rfl; have hfz80_0 := blk_frozen BK241.out 0; have hfz80_1 := blk_frozen BK241.out 1; have hfz80_2 := blk_frozen BK241.out 2
            go_wp2
            go_meet
            case rel => exact ⟨_, (t240), (by first | rfl | (simp; done) | (simp [*]; done)), H', ⟨by first | omega | exact Nat.le_refl _⟩, ⟨by (with_reducible repeat (first | apply bA | apply bB | apply bC)); refine blk_far ?_ NB223_241.out _; (with_reducible repeat (first | apply bA | apply bB | apply bC)); refine blk_far ?_ NB223_241.out _; (with_reducible repeat (first | apply bA | apply bB | apply bC)); refine blk_far ?_ NB223_241.out _; (with_reducible repeat (first | apply bA | apply bB | apply bC)); exact BK223.out⟩, ⟨by (with_reducible repeat (first | apply bA | apply bB | apply bC)); refine blk_far ?_ NB227_241.out _; (with_reducible repeat (first | apply bA | apply bB | apply bC)); refine blk_far ?_ NB227_241.out _; (with_reducible repeat (first | apply bA | apply bB | apply bC)); refine blk_far ?_ NB227_241.out _; (with_reducible repeat (first | apply bA | apply bB | apply bC)); exact BK227.out⟩, ⟨by (with_reducible repeat (first | apply bA | apply bB | apply bC)); refine blk_far ?_ NB232_241.out _; (with_reducible repeat (first | apply bA | apply bB | apply bC)); refine blk_far ?_ NB232_241.out _; (with_reducible repeat (first | apply bA | apply bB | apply bC)); refine blk_far ?_ NB232_241.out _; (with_reducible repeat (first | apply bA | apply bB | apply bC)); exact BK232.out⟩, ⟨by (with_reducible repeat (first | apply bA | apply bB | apply bC)); refine blk_far ?_ NB237_241.out _; (with_reducible repeat (first | apply bA | apply bB | apply bC)); refine blk_far ?_ NB237_241.out _; (with_reducible repeat (first | apply bA | apply bB | apply bC)); refine blk_far ?_ NB237_241.out _; (with_reducible repeat (first | apply bA | apply bB | apply bC)); exact BK237.out⟩, ⟨by (with_reducible repeat (first | apply bA | apply bB | apply bC)); refine blk_put (cs := #[.int .u64 t238, .int .u64 t239, .bool false]) ?_ 2 _ rfl; (with_reducible repeat (first | apply bA | apply bB | apply bC)); refine blk_put (cs := #[.int .u64 t238, .int .u64 0, .bool false]) ?_ 1 _ rfl; (with_reducible repeat (first | apply bA | apply bB | apply bC)); refine blk_put (cs := #[.int .u64 0, .int .u64 0, .bool false]) ?_ 0 _ rfl; (with_reducible repeat (first | apply bA | apply bB | apply bC)); exact BK241.out⟩, ⟨by repeat (first | (with_reducible first | exact HB.out | apply dA | apply dB | apply dC | refine dE ?_ ‹_›) | exact HB.out)⟩⟩
        · rw [if_neg c65] at H
          have c65b0 : decide (0 < t234) = false := decide_eq_false c65; clear c65; have H' := Aside0.mk H; clear H; have hnb81 := NB237_223.out; have hnc81 := NB223_237.out; have hnb82 := NB237_227.out; have hnc82 := NB227_237.out; have hnb83 := NB237_232.out; have hnc83 := NB232_237.out; have hnb84 := NB237_241.out; have hnc84 := NB241_237.out; have hcz85_0 : w42.cell? ⟨gb237, 0, none⟩ = some (.int .u64 t233) := (blk_cell BK237.out 0).trans rfl; have hcz85_1 : w42.cell? ⟨gb237, 1, none⟩ = some (.int .u64 t234) := (blk_cell BK237.out 1).trans rfl; have hcz85_2 : w42.cell? ⟨gb237, 2, none⟩ = some (.bool t235) := (blk_cell BK237.out 2).trans rfl; have hfz85_0 := blk_frozen BK237.out 0; have hfz85_1 := blk_frozen BK237.out 1; have hfz85_2 := blk_frozen BK237.out 2; have hnb86 := NB241_223.out; have hnc86 := NB223_241.out; have hnb87 := NB241_227.out; have hnc87 := NB227_241.out; have hnb88 := NB241_232.out; have hnc88 := NB232_241.out; have hcz89_0 : w42.cell? ⟨gb241, 0, none⟩ = some (.int .u64 0) := (blk_cell BK241.out 0).trans rfl; have hcz89_1 : w42.cell? ⟨gb241, 1, none⟩ = some (.int .u64 0) := (blk_cell BK241.out 1).trans rfl; have hcz89_2 : w42.cell? ⟨gb241, 2, none⟩ = some (.bool false) := (blk_cell BK241.out 2).trans rfl; have hfz89_0 := blk_frozen BK241.out 0; have hfz89_1 := blk_frozen BK241.out 1; have hfz89_2 := blk_frozen BK241.out 2
          go_wp2
          go_meet
          case rel => exact ⟨_, (t240), (by first | rfl | (simp; done) | (simp [*]; done)), H', ⟨by first | omega | exact Nat.le_refl _⟩, ⟨by (with_reducible repeat (first | apply bA | apply bB | apply bC)); refine blk_far ?_ NB223_241.out _; (with_reducible repeat (first | apply bA | apply bB | apply bC)); refine blk_far ?_ NB223_241.out _; (with_reducible repeat (first | apply bA | apply bB | apply bC)); refine blk_far ?_ NB223_241.out _; (with_reducible repeat (first | apply bA | apply bB | apply bC)); exact BK223.out⟩, ⟨by (with_reducible repeat (first | apply bA | apply bB | apply bC)); refine blk_far ?_ NB227_241.out _; (with_reducible repeat (first | apply bA | apply bB | apply bC)); refine blk_far ?_ NB227_241.out _; (with_reducible repeat (first | apply bA | apply bB | apply bC)); refine blk_far ?_ NB227_241.out _; (with_reducible repeat (first | apply bA | apply bB | apply bC)); exact BK227.out⟩, ⟨by (with_reducible repeat (first | apply bA | apply bB | apply bC)); refine blk_far ?_ NB232_241.out _; (with_reducible repeat (first | apply bA | apply bB | apply bC)); refine blk_far ?_ NB232_241.out _; (with_reducible repeat (first | apply bA | apply bB | apply bC)); refine blk_far ?_ NB232_241.out _; (with_reducible repeat (first | apply bA | apply bB | apply bC)); exact BK232.out⟩, ⟨by (with_reducible repeat (first | apply bA | apply bB | apply bC)); refine blk_far ?_ NB237_241.out _; (with_reducible repeat (first | apply bA | apply bB | apply bC)); refine blk_far ?_ NB237_241.out _; (with_reducible repeat (first | apply bA | apply bB | apply bC)); refine blk_far ?_ NB237_241.out _; (with_reducible repeat (first | apply bA | apply bB | apply bC)); exact BK237.out⟩, ⟨by (with_reducible repeat (first | apply bA | apply bB | apply bC)); refine blk_put (cs := #[.int .u64 t238, .int .u64 t239, .bool false]) ?_ 2 _ rfl; (with_reducible repeat (first | apply bA | apply bB | apply bC)); refine blk_put (cs := #[.int .u64 t238, .int .u64 0, .bool false]) ?_ 1 _ rfl; (with_reducible repeat (first | apply bA | apply bB | apply bC)); refine blk_put (cs := #[.int .u64 0, .int .u64 0, .bool false]) ?_ 0 _ rfl; (with_reducible repeat (first | apply bA | apply bB | apply bC)); exact BK241.out⟩, ⟨by repeat (first | (with_reducible first | exact HB.out | apply dA | apply dB | apply dC | refine dE ?_ ‹_›) | exact HB.out)⟩⟩
    · rw [if_neg c48] at H
      have c48b0 : (t226 == 0) = false := beq_eq_false_iff_ne.mpr c48; have c48b1 : (t226 != 0) = true := bne_iff_ne.mpr c48
      (first | rw [c48b0] | (simp only [i64_w, i32_w]; rw [c48b0]) | skip)
      have H' := Aside0.mk H; clear H
      go_wp2
      go_meet
      case rel => exact ⟨_, (true), (by first | rfl | (simp; done) | (simp [*]; done)), H', ⟨by first | omega | exact Nat.le_refl _⟩, ⟨by (with_reducible repeat (first | apply bA | apply bB | apply bC)); refine blk_far ?_ NB223_241.out _; (with_reducible repeat (first | apply bA | apply bB | apply bC)); refine blk_far ?_ NB223_241.out _; (with_reducible repeat (first | apply bA | apply bB | apply bC)); refine blk_far ?_ NB223_241.out _; (with_reducible repeat (first | apply bA | apply bB | apply bC)); exact BK223.out⟩, ⟨by (with_reducible repeat (first | apply bA | apply bB | apply bC)); refine blk_far ?_ NB227_241.out _; (with_reducible repeat (first | apply bA | apply bB | apply bC)); refine blk_far ?_ NB227_241.out _; (with_reducible repeat (first | apply bA | apply bB | apply bC)); refine blk_far ?_ NB227_241.out _; (with_reducible repeat (first | apply bA | apply bB | apply bC)); exact BK227.out⟩, ⟨by (with_reducible repeat (first | apply bA | apply bB | apply bC)); refine blk_far ?_ NB232_241.out _; (with_reducible repeat (first | apply bA | apply bB | apply bC)); refine blk_far ?_ NB232_241.out _; (with_reducible repeat (first | apply bA | apply bB | apply bC)); refine blk_far ?_ NB232_241.out _; (with_reducible repeat (first | apply bA | apply bB | apply bC)); exact BK232.out⟩, ⟨by (with_reducible repeat (first | apply bA | apply bB | apply bC)); refine blk_far ?_ NB237_241.out _; (with_reducible repeat (first | apply bA | apply bB | apply bC)); refine blk_far ?_ NB237_241.out _; (with_reducible repeat (first | apply bA | apply bB | apply bC)); refine blk_far ?_ NB237_241.out _; (with_reducible repeat (first | apply bA | apply bB | apply bC)); exact BK237.out⟩, ⟨by (with_reducible repeat (first | apply bA | apply bB | apply bC)); refine blk_put (cs := #[.int .u64 t238, .int .u64 t239, .bool false]) ?_ 2 _ rfl; (with_reducible repeat (first | apply bA | apply bB | apply bC)); refine blk_put (cs := #[.int .u64 t238, .int .u64 0, .bool false]) ?_ 1 _ rfl; (with_reducible repeat (first | apply bA | apply bB | apply bC)); refine blk_put (cs := #[.int .u64 0, .int .u64 0, .bool false]) ?_ 0 _ rfl; (with_reducible repeat (first | apply bA | apply bB | apply bC)); exact BK241.out⟩, ⟨by repeat (first | (with_reducible first | exact HB.out | apply dA | apply dB | apply dC | refine dE ?_ ‹_›) | exact HB.out)⟩⟩
   case rest =>
    clear HC21
    try clear c1
    try clear c2
    try clear p2
    try clear c3
    try clear c4
    try clear c4b0
    try clear c5
    try clear c5b0
    try clear c5b1
    try clear c6
    try clear c7
    try clear c8
    try clear c10
    try clear c15
    try clear c16
    try clear c17
    try clear c18
    try clear c26
    try clear c31
    try clear c32
    try clear c37
    try clear c38
    try clear c39
    try clear c43
    try clear c44
    try clear c45
    try clear c46
    try clear c48
    try clear c48b0
    try clear c48b1
    try clear c49
    try clear c49b0
    try clear c50
    try clear c50b0
    try clear c50b1
    try clear c50b2
    try clear c51
    try clear c52
    try clear c53
    try clear c54
    try clear c56
    try clear c57
    try clear c58
    try clear c59
    try clear c61
    try clear c62
    try clear c63
    try clear c65
    try clear c65b0
    try clear c66
    try clear c66b0
    try clear c66b1
    try clear c66b2
    try clear c67
    try clear c68
    try clear c69
    try clear c70
    try clear c72
    try clear c73
    try clear c74
    try clear c75
    try clear c77
    try clear c78
    try clear c79
    try clear c81
    try clear c82
    try clear c83
    try clear c84
    try clear c86
    try clear c87
    try clear c88
    try clear hcz11_0
    try clear hcz11_1
    try clear hcz13_0
    try clear hcz13_1
    try clear hcz17_0
    try clear hcz17_1
    try clear hcz23_0
    try clear hcz23_1
    try clear hcz27_0
    try clear hcz27_1
    try clear hcz28_0
    try clear hcz28_1
    try clear hcz33_0
    try clear hcz33_1
    try clear hcz33_2
    try clear hcz34_0
    try clear hcz34_1
    try clear hcz40_0
    try clear hcz40_1
    try clear hcz40_2
    try clear hcz47_0
    try clear hcz47_1
    try clear hcz47_2
    try clear hcz55_0
    try clear hcz55_1
    try clear hcz55_2
    try clear hcz60_0
    try clear hcz60_1
    try clear hcz60_2
    try clear hcz64_0
    try clear hcz64_1
    try clear hcz64_2
    try clear hcz71_0
    try clear hcz71_1
    try clear hcz71_2
    try clear hcz76_0
    try clear hcz76_1
    try clear hcz76_2
    try clear hcz7_0
    try clear hcz7_1
    try clear hcz80_0
    try clear hcz80_1
    try clear hcz80_2
    try clear hcz85_0
    try clear hcz85_1
    try clear hcz85_2
    try clear hcz89_0
    try clear hcz89_1
    try clear hcz89_2
    try clear hfz11_0
    try clear hfz11_1
    try clear hfz13_0
    try clear hfz13_1
    try clear hfz17_0
    try clear hfz17_1
    try clear hfz23_0
    try clear hfz23_1
    try clear hfz27_0
    try clear hfz27_1
    try clear hfz28_0
    try clear hfz28_1
    try clear hfz33_0
    try clear hfz33_1
    try clear hfz33_2
    try clear hfz34_0
    try clear hfz34_1
    try clear hfz40_0
    try clear hfz40_1
    try clear hfz40_2
    try clear hfz47_0
    try clear hfz47_1
    try clear hfz47_2
    try clear hfz55_0
    try clear hfz55_1
    try clear hfz55_2
    try clear hfz60_0
    try clear hfz60_1
    try clear hfz60_2
    try clear hfz64_0
    try clear hfz64_1
    try clear hfz64_2
    try clear hfz71_0
    try clear hfz71_1
    try clear hfz71_2
    try clear hfz76_0
    try clear hfz76_1
    try clear hfz76_2
    try clear hfz7_0
    try clear hfz7_1
    try clear hfz80_0
    try clear hfz80_1
    try clear hfz80_2
    try clear hfz85_0
    try clear hfz85_1
    try clear hfz85_2
    try clear hfz89_0
    try clear hfz89_1
    try clear hfz89_2
    obtain ⟨kq, x62_20, rfl, HA, HJ20, BK223, BK227, BK232, BK237, BK241, HB⟩ := hcut
    cases kq with
    | zero => exact absurd HA.out (by simp [tumblerlaw02_MicroRest.j0])
    | succ kj20 =>
     have H := HA.out; clear HA
     simp only [tumblerlaw02_MicroRest.j0] at H
     by_cases c90 : x62_20 = true
     · subst c90
       have H1 : (some false) = some r := by rw [if_pos rfl] at H; exact H
       clear H; have H := H1; clear H1
       obtain rfl := Option.some.inj H
       go_wp2
       go_ret
       exact ⟨by first | rfl | (simp [errW_none, errW_some] <;> rfl) | (simp [*, errW_none, errW_some] <;> rfl), by repeat (first | (with_reducible first | exact HB.out | apply dA | apply dB | apply dC | refine dE ?_ ‹_›) | exact HB.out)⟩
     · replace c90 := Bool.eq_false_iff.mpr c90
       subst c90
       have H1 : (if t238 > t228 then (tumblerlaw02_MicroRest.j1 kj20 a1 true t228 t229 t230 t238 t239 t240) else (if t238 = t228 then (tumblerlaw02_MicroRest.j1 kj20 a1 (decide (t239 > t229)) t228 t229 t230 t238 t239 t240) else (tumblerlaw02_MicroRest.j1 kj20 a1 false t228 t229 t230 t238 t239 t240))) = some r := by rw [if_neg (show ¬ (false = true) by decide)] at H; exact H
       clear H; have H := H1; clear H1; have HC91 := Aside0.mk H; clear H
       go_upto_region 9 with (fail)
       go_cut [81] (fun v81 wc => ∃ (kq : Nat) (x81_90 : Bool), v81 = .bool x81_90 ∧ Aside0 (tumblerlaw02_MicroRest.j1 kq a1 x81_90 t228 t229 t230 t238 t239 t240 = some r) ∧ Aside0 (kq ≤ kj20) ∧ Aside0 (wc.heap[gb223]? = some (.cells #[.int .i64 a0_0, .int .u64 a0_1] 24 (0, 0))) ∧ Aside0 (wc.heap[gb227]? = some (.cells #[.int .i64 t224, .int .u64 t225] 24 (0, 0))) ∧ Aside0 (wc.heap[gb232]? = some (.cells #[.int .u64 t228, .int .u64 t229, .bool t230] 35 (0, 0))) ∧ Aside0 (wc.heap[gb237]? = some (.cells #[.int .u64 t233, .int .u64 t234, .bool t235] 35 (0, 0))) ∧ Aside0 (wc.heap[gb241]? = some (.cells #[.int .u64 t238, .int .u64 t239, .bool t240] 35 (0, 0))) ∧ Aside0 (Below w.heap.size w wc))
       case first =>
        have H := HC91.out; clear HC91
        by_cases c92 : t238 > t228
        · rw [if_pos c92] at H
          have c92b0 : decide (t228 < t238) = true := decide_eq_true c92; clear c92
          (first | rw [c92b0] | (simp only [i64_w, i32_w]; rw [c92b0]) | skip)
          have H' := Aside0.mk H; clear H; have hnb93 := NB241_223.out; have hnc93 := NB223_241.out; have hnb94 := NB241_227.out; have hnc94 := NB227_241.out; have hnb95 := NB241_232.out; have hnc95 := NB232_241.out; have hnb96 := NB241_237.out; have hnc96 := NB237_241.out; have hcz97_0 : wc.cell? ⟨gb241, 0, none⟩ = some (.int .u64 t238) := (blk_cell BK241.out 0).trans rfl; have hcz97_1 : wc.cell? ⟨gb241, 1, none⟩ = some (.int .u64 t239) := (blk_cell BK241.out 1).trans rfl; have hcz97_2 : wc.cell? ⟨gb241, 2, none⟩ = some (.bool t240) := (blk_cell BK241.out 2).trans rfl; have hfz97_0 := blk_frozen BK241.out 0; have hfz97_1 := blk_frozen BK241.out 1; have hfz97_2 := blk_frozen BK241.out 2; have hnb98 := NB232_223.out; have hnc98 := NB223_232.out; have hnb99 := NB232_227.out; have hnc99 := NB227_232.out; have hnb100 := NB232_237.out; have hnc100 := NB237_232.out; have hcz101_0 : wc.cell? ⟨gb232, 0, none⟩ = some (.int .u64 t228) := (blk_cell BK232.out 0).trans rfl; have hcz101_1 : wc.cell? ⟨gb232, 1, none⟩ = some (.int .u64 t229) := (blk_cell BK232.out 1).trans rfl; have hcz101_2 : wc.cell? ⟨gb232, 2, none⟩ = some (.bool t230) := (blk_cell BK232.out 2).trans rfl; have hfz101_0 := blk_frozen BK232.out 0; have hfz101_1 := blk_frozen BK232.out 1; have hfz101_2 := blk_frozen BK232.out 2
          go_wp2
          go_meet
          case rel => exact ⟨_, (true), (by first | rfl | (simp; done) | (simp [*]; done)), H', ⟨by have := HJ20.out; first | omega | exact Nat.le_refl _⟩, ⟨by (with_reducible repeat (first | apply bA | apply bB | apply bC)); exact BK223.out⟩, ⟨by (with_reducible repeat (first | apply bA | apply bB | apply bC)); exact BK227.out⟩, ⟨by (with_reducible repeat (first | apply bA | apply bB | apply bC)); exact BK232.out⟩, ⟨by (with_reducible repeat (first | apply bA | apply bB | apply bC)); exact BK237.out⟩, ⟨by (with_reducible repeat (first | apply bA | apply bB | apply bC)); exact BK241.out⟩, ⟨by repeat (first | (with_reducible first | exact HB.out | apply dA | apply dB | apply dC | refine dE ?_ ‹_›) | exact HB.out)⟩⟩
        · rw [if_neg c92] at H
          have c92b0 : decide (t228 < t238) = false := decide_eq_false c92; clear c92
          (first | rw [c92b0] | (simp only [i64_w, i32_w]; rw [c92b0]) | skip)
          by_cases c102 : t238 = t228
          · rw [if_pos c102] at H
            have c102b0 : (t238 == t228) = true := beq_iff_eq.mpr c102; have c102b1 : (t238 != t228) = false := bne_eq_false_iff_eq.mpr c102; clear c102; have H' := Aside0.mk H; clear H; have hnb103 := NB241_223.out; have hnc103 := NB223_241.out; have hnb104 := NB241_227.out; have hnc104 := NB227_241.out; have hnb105 := NB241_232.out; have hnc105 := NB232_241.out; have hnb106 := NB241_237.out; have hnc106 := NB237_241.out; have hcz107_0 : wc.cell? ⟨gb241, 0, none⟩ = some (.int .u64 t238) := (blk_cell BK241.out 0).trans rfl; have hcz107_1 : wc.cell? ⟨gb241, 1, none⟩ = some (.int .u64 t239) := (blk_cell BK241.out 1).trans rfl; have hcz107_2 : wc.cell? ⟨gb241, 2, none⟩ = some (.bool t240) := (blk_cell BK241.out 2).trans rfl; have hfz107_0 := blk_frozen BK241.out 0; have hfz107_1 := blk_frozen BK241.out 1; have hfz107_2 := blk_frozen BK241.out 2; have hnb108 := NB232_223.out; have hnc108 := NB223_232.out; have hnb109 := NB232_227.out; have hnc109 := NB227_232.out; have hnb110 := NB232_237.out; have hnc110 := NB237_232.out; have hcz111_0 : wc.cell? ⟨gb232, 0, none⟩ = some (.int .u64 t228) := (blk_cell BK232.out 0).trans rfl; have hcz111_1 : wc.cell? ⟨gb232, 1, none⟩ = some (.int .u64 t229) := (blk_cell BK232.out 1).trans rfl; have hcz111_2 : wc.cell? ⟨gb232, 2, none⟩ = some (.bool t230) := (blk_cell BK232.out 2).trans rfl; have hfz111_0 := blk_frozen BK232.out 0; have hfz111_1 := blk_frozen BK232.out 1; have hfz111_2 := blk_frozen BK232.out 2
            go_wp2
            go_meet
            case rel => exact ⟨_, (decide (t239 > t229)), (by first | rfl | (simp; done) | (simp [*]; done)), H', ⟨by have := HJ20.out; first | omega | exact Nat.le_refl _⟩, ⟨by (with_reducible repeat (first | apply bA | apply bB | apply bC)); exact BK223.out⟩, ⟨by (with_reducible repeat (first | apply bA | apply bB | apply bC)); exact BK227.out⟩, ⟨by (with_reducible repeat (first | apply bA | apply bB | apply bC)); exact BK232.out⟩, ⟨by (with_reducible repeat (first | apply bA | apply bB | apply bC)); exact BK237.out⟩, ⟨by (with_reducible repeat (first | apply bA | apply bB | apply bC)); exact BK241.out⟩, ⟨by repeat (first | (with_reducible first | exact HB.out | apply dA | apply dB | apply dC | refine dE ?_ ‹_›) | exact HB.out)⟩⟩
          · rw [if_neg c102] at H
            have c102b0 : (t238 == t228) = false := beq_eq_false_iff_ne.mpr c102; have c102b1 : (t238 != t228) = true := bne_iff_ne.mpr c102; have H' := Aside0.mk H; clear H; have hnb112 := NB241_223.out; have hnc112 := NB223_241.out; have hnb113 := NB241_227.out; have hnc113 := NB227_241.out; have hnb114 := NB241_232.out; have hnc114 := NB232_241.out; have hnb115 := NB241_237.out; have hnc115 := NB237_241.out; have hcz116_0 : wc.cell? ⟨gb241, 0, none⟩ = some (.int .u64 t238) := (blk_cell BK241.out 0).trans rfl; have hcz116_1 : wc.cell? ⟨gb241, 1, none⟩ = some (.int .u64 t239) := (blk_cell BK241.out 1).trans rfl; have hcz116_2 : wc.cell? ⟨gb241, 2, none⟩ = some (.bool t240) := (blk_cell BK241.out 2).trans rfl; have hfz116_0 := blk_frozen BK241.out 0; have hfz116_1 := blk_frozen BK241.out 1; have hfz116_2 := blk_frozen BK241.out 2; have hnb117 := NB232_223.out; have hnc117 := NB223_232.out; have hnb118 := NB232_227.out; have hnc118 := NB227_232.out; have hnb119 := NB232_237.out; have hnc119 := NB237_232.out; have hcz120_0 : wc.cell? ⟨gb232, 0, none⟩ = some (.int .u64 t228) := (blk_cell BK232.out 0).trans rfl; have hcz120_1 : wc.cell? ⟨gb232, 1, none⟩ = some (.int .u64 t229) := (blk_cell BK232.out 1).trans rfl; have hcz120_2 : wc.cell? ⟨gb232, 2, none⟩ = some (.bool t230) := (blk_cell BK232.out 2).trans rfl; have hfz120_0 := blk_frozen BK232.out 0; have hfz120_1 := blk_frozen BK232.out 1; have hfz120_2 := blk_frozen BK232.out 2
            go_wp2
            go_meet
            case rel => exact ⟨_, (false), (by first | rfl | (simp; done) | (simp [*]; done)), H', ⟨by have := HJ20.out; first | omega | exact Nat.le_refl _⟩, ⟨by (with_reducible repeat (first | apply bA | apply bB | apply bC)); exact BK223.out⟩, ⟨by (with_reducible repeat (first | apply bA | apply bB | apply bC)); exact BK227.out⟩, ⟨by (with_reducible repeat (first | apply bA | apply bB | apply bC)); exact BK232.out⟩, ⟨by (with_reducible repeat (first | apply bA | apply bB | apply bC)); exact BK237.out⟩, ⟨by (with_reducible repeat (first | apply bA | apply bB | apply bC)); exact BK241.out⟩, ⟨by repeat (first | (with_reducible first | exact HB.out | apply dA | apply dB | apply dC | refine dE ?_ ‹_›) | exact HB.out)⟩⟩
       case rest =>
        clear HC91
        try clear c1
        try clear c2
        try clear p2
        try clear c3
        try clear c4
        try clear c4b0
        try clear c5
        try clear c5b0
        try clear c5b1
        try clear c6
        try clear c7
        try clear c8
        try clear c9
        try clear c10
        try clear c11
        try clear c15
        try clear c16
        try clear c17
        try clear c18
        try clear c26
        try clear c31
        try clear c32
        try clear c37
        try clear c38
        try clear c39
        try clear c43
        try clear c44
        try clear c45
        try clear c46
        try clear c48
        try clear c48b0
        try clear c48b1
        try clear c49
        try clear c49b0
        try clear c50
        try clear c50b0
        try clear c50b1
        try clear c50b2
        try clear c51
        try clear c52
        try clear c53
        try clear c54
        try clear c56
        try clear c57
        try clear c58
        try clear c59
        try clear c61
        try clear c62
        try clear c63
        try clear c65
        try clear c65b0
        try clear c66
        try clear c66b0
        try clear c66b1
        try clear c66b2
        try clear c67
        try clear c68
        try clear c69
        try clear c70
        try clear c72
        try clear c73
        try clear c74
        try clear c75
        try clear c77
        try clear c78
        try clear c79
        try clear c81
        try clear c82
        try clear c83
        try clear c84
        try clear c86
        try clear c87
        try clear c88
        try clear c90
        try clear c92
        try clear c92b0
        try clear c93
        try clear c94
        try clear c95
        try clear c96
        try clear c98
        try clear c99
        try clear c100
        try clear c102
        try clear c102b0
        try clear c102b1
        try clear c103
        try clear c104
        try clear c105
        try clear c106
        try clear c108
        try clear c109
        try clear c110
        try clear c112
        try clear c113
        try clear c114
        try clear c115
        try clear c117
        try clear c118
        try clear c119
        try clear hcz101_0
        try clear hcz101_1
        try clear hcz101_2
        try clear hcz107_0
        try clear hcz107_1
        try clear hcz107_2
        try clear hcz111_0
        try clear hcz111_1
        try clear hcz111_2
        try clear hcz116_0
        try clear hcz116_1
        try clear hcz116_2
        try clear hcz11_0
        try clear hcz11_1
        try clear hcz120_0
        try clear hcz120_1
        try clear hcz120_2
        try clear hcz13_0
        try clear hcz13_1
        try clear hcz17_0
        try clear hcz17_1
        try clear hcz23_0
        try clear hcz23_1
        try clear hcz27_0
        try clear hcz27_1
        try clear hcz28_0
        try clear hcz28_1
        try clear hcz33_0
        try clear hcz33_1
        try clear hcz33_2
        try clear hcz34_0
        try clear hcz34_1
        try clear hcz40_0
        try clear hcz40_1
        try clear hcz40_2
        try clear hcz47_0
        try clear hcz47_1
        try clear hcz47_2
        try clear hcz55_0
        try clear hcz55_1
        try clear hcz55_2
        try clear hcz60_0
        try clear hcz60_1
        try clear hcz60_2
        try clear hcz64_0
        try clear hcz64_1
        try clear hcz64_2
        try clear hcz71_0
        try clear hcz71_1
        try clear hcz71_2
        try clear hcz76_0
        try clear hcz76_1
        try clear hcz76_2
        try clear hcz7_0
        try clear hcz7_1
        try clear hcz80_0
        try clear hcz80_1
        try clear hcz80_2
        try clear hcz85_0
        try clear hcz85_1
        try clear hcz85_2
        try clear hcz89_0
        try clear hcz89_1
        try clear hcz89_2
        try clear hcz97_0
        try clear hcz97_1
        try clear hcz97_2
        try clear hfz101_0
        try clear hfz101_1
        try clear hfz101_2
        try clear hfz107_0
        try clear hfz107_1
        try clear hfz107_2
        try clear hfz111_0
        try clear hfz111_1
        try clear hfz111_2
        try clear hfz116_0
        try clear hfz116_1
        try clear hfz116_2
        try clear hfz11_0
        try clear hfz11_1
        try clear hfz120_0
        try clear hfz120_1
        try clear hfz120_2
        try clear hfz13_0
        try clear hfz13_1
        try clear hfz17_0
        try clear hfz17_1
        try clear hfz23_0
        try clear hfz23_1
        try clear hfz27_0
        try clear hfz27_1
        try clear hfz28_0
        try clear hfz28_1
        try clear hfz33_0
        try clear hfz33_1
        try clear hfz33_2
        try clear hfz34_0
        try clear hfz34_1
        try clear hfz40_0
        try clear hfz40_1
        try clear hfz40_2
        try clear hfz47_0
        try clear hfz47_1
        try clear hfz47_2
        try clear hfz55_0
        try clear hfz55_1
        try clear hfz55_2
        try clear hfz60_0
        try clear hfz60_1
        try clear hfz60_2
        try clear hfz64_0
        try clear hfz64_1
        try clear hfz64_2
        try clear hfz71_0
        try clear hfz71_1
        try clear hfz71_2
        try clear hfz76_0
        try clear hfz76_1
        try clear hfz76_2
        try clear hfz7_0
        try clear hfz7_1
        try clear hfz80_0
        try clear hfz80_1
        try clear hfz80_2
        try clear hfz85_0
        try clear hfz85_1
        try clear hfz85_2
        try clear hfz89_0
        try clear hfz89_1
        try clear hfz89_2
        try clear hfz97_0
        try clear hfz97_1
        try clear hfz97_2
        try clear p2
        obtain ⟨kq, x81_90, rfl, HA, HJ90, BK223, BK227, BK232, BK237, BK241, HB⟩ := hcut
        cases kq with
        | zero => exact absurd HA.out (by simp [tumblerlaw02_MicroRest.j1])
        | succ kj90 =>
         have H := HA.out; clear HA
         simp only [tumblerlaw02_MicroRest.j1] at H
         by_cases c121 : x81_90 = true
         · subst c121
           have H1 : (some false) = some r := by rw [if_pos rfl] at H; exact H
           clear H; have H := H1; clear H1
           obtain rfl := Option.some.inj H
           go_wp2
           go_ret
           exact ⟨by first | rfl | (simp [errW_none, errW_some] <;> rfl) | (simp [*, errW_none, errW_some] <;> rfl), by repeat (first | (with_reducible first | exact HB.out | apply dA | apply dB | apply dC | refine dE ?_ ‹_›) | exact HB.out)⟩
         · replace c121 := Bool.eq_false_iff.mpr c121
           subst c121
           have H1 : (if t229 < t239 then (if (IntKind.u64.wrap ((IntKind.u64.wrap (t228 - t238)) - 1)) = 0 then (some (decide ((IntKind.u64.wrap (t229 - t239)) < (IntKind.u64.wrap (a1))))) else (some false)) else (if (IntKind.u64.wrap (t228 - t238)) = 0 then (some (decide ((IntKind.u64.wrap (t229 - t239)) < (IntKind.u64.wrap (a1))))) else (some false))) = some r := by rw [if_neg (show ¬ (false = true) by decide)] at H; exact H
           clear H; have H := H1; clear H1
           by_cases c122 : t229 < t239
           · rw [if_pos c122] at H
             have c122b0 : decide (t229 < t239) = true := decide_eq_true c122; clear c122
             by_cases c123 : (IntKind.u64.wrap ((IntKind.u64.wrap (t228 - t238)) - 1)) = 0
             · rw [if_pos c123] at H
               have c123b0 : ((IntKind.u64.wrap ((IntKind.u64.wrap (t228 - t238)) - 1)) == 0) = true := beq_iff_eq.mpr c123; have c123b1 : ((IntKind.u64.wrap ((IntKind.u64.wrap (t228 - t238)) - 1)) != 0) = false := bne_eq_false_iff_eq.mpr c123; clear c123
               obtain rfl := Option.some.inj H
               have hnb124 := NB232_223.out; have hnc124 := NB223_232.out; have hnb125 := NB232_227.out; have hnc125 := NB227_232.out; have hnb126 := NB232_237.out; have hnc126 := NB237_232.out; have hnb127 := NB232_241.out; have hnc127 := NB241_232.out; have hcz128_0 : wc.cell? ⟨gb232, 0, none⟩ = some (.int .u64 t228) := (blk_cell BK232.out 0).trans rfl; have hcz128_1 : wc.cell? ⟨gb232, 1, none⟩ = some (.int .u64 t229) := (blk_cell BK232.out 1).trans rfl; have hcz128_2 : wc.cell? ⟨gb232, 2, none⟩ = some (.bool t230) := (blk_cell BK232.out 2).trans rfl; have hfz128_0 := blk_frozen BK232.out 0; have hfz128_1 := blk_frozen BK232.out 1; have hfz128_2 := blk_frozen BK232.out 2; have hnb129 := NB241_223.out; have hnc129 := NB223_241.out; have hnb130 := NB241_227.out; have hnc130 := NB227_241.out; have hnb131 := NB241_237.out; have hnc131 := NB237_241.out; have hcz132_0 : wc.cell? ⟨gb241, 0, none⟩ = some (.int .u64 t238) := (blk_cell BK241.out 0).trans rfl; have hcz132_1 : wc.cell? ⟨gb241, 1, none⟩ = some (.int .u64 t239) := (blk_cell BK241.out 1).trans rfl; have hcz132_2 : wc.cell? ⟨gb241, 2, none⟩ = some (.bool t240) := (blk_cell BK241.out 2).trans rfl; have hfz132_0 := blk_frozen BK241.out 0; have hfz132_1 := blk_frozen BK241.out 1; have hfz132_2 := blk_frozen BK241.out 2
               go_wp2
               go_ret
               exact ⟨by first | rfl | (simp [errW_none, errW_some] <;> rfl) | (simp [*, errW_none, errW_some] <;> rfl), by repeat (first | (with_reducible first | exact HB.out | apply dA | apply dB | apply dC | refine dE ?_ ‹_›) | exact HB.out)⟩
             · rw [if_neg c123] at H
               have c123b0 : ((IntKind.u64.wrap ((IntKind.u64.wrap (t228 - t238)) - 1)) == 0) = false := beq_eq_false_iff_ne.mpr c123; have c123b1 : ((IntKind.u64.wrap ((IntKind.u64.wrap (t228 - t238)) - 1)) != 0) = true := bne_iff_ne.mpr c123
               obtain rfl := Option.some.inj H
               have hnb133 := NB232_223.out; have hnc133 := NB223_232.out; have hnb134 := NB232_227.out; have hnc134 := NB227_232.out; have hnb135 := NB232_237.out; have hnc135 := NB237_232.out; have hnb136 := NB232_241.out; have hnc136 := NB241_232.out; have hcz137_0 : wc.cell? ⟨gb232, 0, none⟩ = some (.int .u64 t228) := (blk_cell BK232.out 0).trans rfl; have hcz137_1 : wc.cell? ⟨gb232, 1, none⟩ = some (.int .u64 t229) := (blk_cell BK232.out 1).trans rfl; have hcz137_2 : wc.cell? ⟨gb232, 2, none⟩ = some (.bool t230) := (blk_cell BK232.out 2).trans rfl; have hfz137_0 := blk_frozen BK232.out 0; have hfz137_1 := blk_frozen BK232.out 1; have hfz137_2 := blk_frozen BK232.out 2; have hnb138 := NB241_223.out; have hnc138 := NB223_241.out; have hnb139 := NB241_227.out; have hnc139 := NB227_241.out; have hnb140 := NB241_237.out; have hnc140 := NB237_241.out; have hcz141_0 : wc.cell? ⟨gb241, 0, none⟩ = some (.int .u64 t238) := (blk_cell BK241.out 0).trans rfl; have hcz141_1 : wc.cell? ⟨gb241, 1, none⟩ = some (.int .u64 t239) := (blk_cell BK241.out 1).trans rfl; have hcz141_2 : wc.cell? ⟨gb241, 2, none⟩ = some (.bool t240) := (blk_cell BK241.out 2).trans rfl; have hfz141_0 := blk_frozen BK241.out 0; have hfz141_1 := blk_frozen BK241.out 1; have hfz141_2 := blk_frozen BK241.out 2
               go_wp2
               go_ret
               exact ⟨by first | rfl | (simp [errW_none, errW_some] <;> rfl) | (simp [*, errW_none, errW_some] <;> rfl), by repeat (first | (with_reducible first | exact HB.out | apply dA | apply dB | apply dC | refine dE ?_ ‹_›) | exact HB.out)⟩
           · rw [if_neg c122] at H
             have c122b0 : decide (t229 < t239) = false := decide_eq_false c122; clear c122
             by_cases c142 : (IntKind.u64.wrap (t228 - t238)) = 0
             · rw [if_pos c142] at H
               have c142b0 : ((IntKind.u64.wrap (t228 - t238)) == 0) = true := beq_iff_eq.mpr c142; have c142b1 : ((IntKind.u64.wrap (t228 - t238)) != 0) = false := bne_eq_false_iff_eq.mpr c142; clear c142
               obtain rfl := Option.some.inj H
               have hnb143 := NB232_223.out; have hnc143 := NB223_232.out; have hnb144 := NB232_227.out; have hnc144 := NB227_232.out; have hnb145 := NB232_237.out; have hnc145 := NB237_232.out; have hnb146 := NB232_241.out; have hnc146 := NB241_232.out; have hcz147_0 : wc.cell? ⟨gb232, 0, none⟩ = some (.int .u64 t228) := (blk_cell BK232.out 0).trans rfl; have hcz147_1 : wc.cell? ⟨gb232, 1, none⟩ = some (.int .u64 t229) := (blk_cell BK232.out 1).trans rfl; have hcz147_2 : wc.cell? ⟨gb232, 2, none⟩ = some (.bool t230) := (blk_cell BK232.out 2).trans rfl; have hfz147_0 := blk_frozen BK232.out 0; have hfz147_1 := blk_frozen BK232.out 1; have hfz147_2 := blk_frozen BK232.out 2; have hnb148 := NB241_223.out; have hnc148 := NB223_241.out; have hnb149 := NB241_227.out; have hnc149 := NB227_241.out; have hnb150 := NB241_237.out; have hnc150 := NB237_241.out; have hcz151_0 : wc.cell? ⟨gb241, 0, none⟩ = some (.int .u64 t238) := (blk_cell BK241.out 0).trans rfl; have hcz151_1 : wc.cell? ⟨gb241, 1, none⟩ = some (.int .u64 t239) := (blk_cell BK241.out 1).trans rfl; have hcz151_2 : wc.cell? ⟨gb241, 2, none⟩ = some (.bool t240) := (blk_cell BK241.out 2).trans rfl; have hfz151_0 := blk_frozen BK241.out 0; have hfz151_1 := blk_frozen BK241.out 1; have hfz151_2 := blk_frozen BK241.out 2
               go_wp2
               go_ret
               exact ⟨by first | rfl | (simp [errW_none, errW_some] <;> rfl) | (simp [*, errW_none, errW_some] <;> rfl), by repeat (first | (with_reducible first | exact HB.out | apply dA | apply dB | apply dC | refine dE ?_ ‹_›) | exact HB.out)⟩
             · rw [if_neg c142] at H
               have c142b0 : ((IntKind.u64.wrap (t228 - t238)) == 0) = false := beq_eq_false_iff_ne.mpr c142; have c142b1 : ((IntKind.u64.wrap (t228 - t238)) != 0) = true := bne_iff_ne.mpr c142
               obtain rfl := Option.some.inj H
               have hnb152 := NB232_223.out; have hnc152 := NB223_232.out; have hnb153 := NB232_227.out; have hnc153 := NB227_232.out; have hnb154 := NB232_237.out; have hnc154 := NB237_232.out; have hnb155 := NB232_241.out; have hnc155 := NB241_232.out; have hcz156_0 : wc.cell? ⟨gb232, 0, none⟩ = some (.int .u64 t228) := (blk_cell BK232.out 0).trans rfl; have hcz156_1 : wc.cell? ⟨gb232, 1, none⟩ = some (.int .u64 t229) := (blk_cell BK232.out 1).trans rfl; have hcz156_2 : wc.cell? ⟨gb232, 2, none⟩ = some (.bool t230) := (blk_cell BK232.out 2).trans rfl; have hfz156_0 := blk_frozen BK232.out 0; have hfz156_1 := blk_frozen BK232.out 1; have hfz156_2 := blk_frozen BK232.out 2; have hnb157 := NB241_223.out; have hnc157 := NB223_241.out; have hnb158 := NB241_227.out; have hnc158 := NB227_241.out; have hnb159 := NB241_237.out; have hnc159 := NB237_241.out; have hcz160_0 : wc.cell? ⟨gb241, 0, none⟩ = some (.int .u64 t238) := (blk_cell BK241.out 0).trans rfl; have hcz160_1 : wc.cell? ⟨gb241, 1, none⟩ = some (.int .u64 t239) := (blk_cell BK241.out 1).trans rfl; have hcz160_2 : wc.cell? ⟨gb241, 2, none⟩ = some (.bool t240) := (blk_cell BK241.out 2).trans rfl; have hfz160_0 := blk_frozen BK241.out 0; have hfz160_1 := blk_frozen BK241.out 1; have hfz160_2 := blk_frozen BK241.out 2
               go_wp2
               go_ret
               exact ⟨by first | rfl | (simp [errW_none, errW_some] <;> rfl) | (simp [*, errW_none, errW_some] <;> rfl), by repeat (first | (with_reducible first | exact HB.out | apply dA | apply dB | apply dC | refine dE ?_ ‹_›) | exact HB.out)⟩

/-- THE ONE PURE STATEMENT of tumblerlaw02_MicroRest: yours. -/
def tumblerlaw02_MicroRest.Pure : Prop := ∀ (a0_0 : Int) (a0_1 : Int) (a1 : Int), (Lit.int .i64 a0_0).wf = true → (Lit.int .u64 a0_1).wf = true → (Lit.int .i64 a1).wf = true → ∃ k, tumblerlaw02_MicroRest.f k a0_0 a0_1 a1 = some true
theorem tumblerlaw02_MicroRest.walk (P : tumblerlaw02_MicroRest.Pure) (a0_0 : Int) (a0_1 : Int) (a1 : Int) (w : World) (w0_0 : (Lit.int .i64 a0_0).wf = true) (w0_1 : (Lit.int .u64 a0_1).wf = true) (w1 : (Lit.int .i64 a1).wf = true) :
 Calls Try.prog 5 #[.agg #[.int .i64 a0_0, .int .u64 a0_1], .int .i64 a1] w fun e w' => e = .returned (.bool true) ∧ Below w.heap.size w w' := by
 obtain ⟨k, h⟩ := P a0_0 a0_1 a1 w0_0 w0_1 w1
 refine (tumblerlaw02_MicroRest.calls k a0_0 a0_1 a1 true w h).mono ?_
 rintro e w' ⟨rfl, hd⟩
 exact ⟨rfl, hd⟩

end Go.Proofs.Ytifhebempfjcmaa.P
