-- Printed by this session's own pp.py (wip/tool) out of the translation.
import Derived.Test.YtcfhmbhlibhlnaaDoorPx0
import Derived.Test.YtcfhmbhlibhlnaaDoorPxf81
namespace Go.Proofs.YtcfhmbhlibhlnaaDoor.P
open Go.RowKit Go.Proofs.YtcfhmbhlibhlnaaDoorW.PrintWords Go.Proofs.YtcfhmbhlibhlnaaDoorW.PrintLast Go.Proofs.YtcfhmbhlibhlnaaDoorW.PrintMore Go.Proofs.YtcfhmbhlibhlnaaDoor.Mine
attribute [local go_sem] ext71 ext79 eqA61 eqA62
attribute [local go_sem] max2_int min2_int max_two min_two max_three min_three max_four min_four   -- for this text's walks alone
set_option linter.unusedVariables false
set_option linter.unusedSimpArgs false

/-! ### tumblerref01_From: function 69 -/
mutual
def tumblerref01_From.j0 : Nat → List Int → Int → Int → Bool → Option (Bool × List Int)
 | 0, _, _, _, _ => none
 | k + 1, x3, x4, x5, x6 => tumblerref01_From.l0 k x3 x4 x5 x6 0
def tumblerref01_From.l0 : Nat → List Int → Int → Int → Bool → Int → Option (Bool × List Int)
 | 0, _, _, _, _, _ => none
 | k + 1, x3, x4, x5, x6, x7 => if x7 < 4 then (if 0 ≤ (IntKind.u64.wrap (16 * (IntKind.u64.wrap (x7)))) then (if x3.length < 35184372088832 then (tumblerref01_From.l0 k (x3 ++ [Go.bits .and .u32 ((shr .u64 x5 (IntKind.u64.wrap (16 * (IntKind.u64.wrap (x7))))) % 4294967296) 65535]) x4 x5 x6 (wrap64 (x7 + 1))) else (none)) else (none)) else (tumblerref01_From.l1 k x3 x4 x6 0)
def tumblerref01_From.l1 : Nat → List Int → Int → Bool → Int → Option (Bool × List Int)
 | 0, _, _, _, _ => none
 | k + 1, x3, x4, x6, x8 => if x8 < 4 then (if 0 ≤ (IntKind.u64.wrap (16 * (IntKind.u64.wrap (x8)))) then (if x3.length < 35184372088832 then (tumblerref01_From.l1 k (x3 ++ [Go.bits .and .u32 ((shr .u64 x4 (IntKind.u64.wrap (16 * (IntKind.u64.wrap (x8))))) % 4294967296) 65535]) x4 x6 (wrap64 (x8 + 1))) else (none)) else (none)) else ((tumblerref01_make2.f k x6 x3).bind fun bt152 => (some (bt152.1, bt152.2)))
end
def tumblerref01_From.f (k : Nat) (a0_0 : Int) (a0_1 : Int) : Option (Bool × List Int) := if a0_0 < 0 then (if (IntKind.u64.wrap ((Go.bits .xor .u64 18446744073709551615 a0_1) + 1)) = 0 then (tumblerref01_From.j0 k ([] : List Int) (IntKind.u64.wrap ((Go.bits .xor .u64 18446744073709551615 (IntKind.u64.wrap (a0_0))) + 1)) (IntKind.u64.wrap ((Go.bits .xor .u64 18446744073709551615 a0_1) + 1)) (decide (a0_0 < 0))) else (tumblerref01_From.j0 k ([] : List Int) (Go.bits .xor .u64 18446744073709551615 (IntKind.u64.wrap (a0_0))) (IntKind.u64.wrap ((Go.bits .xor .u64 18446744073709551615 a0_1) + 1)) (decide (a0_0 < 0)))) else (tumblerref01_From.j0 k ([] : List Int) (IntKind.u64.wrap (a0_0)) a0_1 (decide (a0_0 < 0)))
theorem tumblerref01_From.mono_l : ∀ k, (∀ y0 y1 y2 y3, LeO (tumblerref01_From.j0 k y0 y1 y2 y3) (tumblerref01_From.j0 (k + 1) y0 y1 y2 y3)) ∧ (∀ y0 y1 y2 y3 y4, LeO (tumblerref01_From.l0 k y0 y1 y2 y3 y4) (tumblerref01_From.l0 (k + 1) y0 y1 y2 y3 y4)) ∧ (∀ y0 y1 y2 y3, LeO (tumblerref01_From.l1 k y0 y1 y2 y3) (tumblerref01_From.l1 (k + 1) y0 y1 y2 y3))
 | 0 => ⟨fun _ _ _ _ r h => by simp [tumblerref01_From.j0] at h, fun _ _ _ _ _ r h => by simp [tumblerref01_From.l0] at h, fun _ _ _ _ r h => by simp [tumblerref01_From.l1] at h⟩
 | k + 1 => by
  obtain ⟨ih0, ih1, ih2⟩ := tumblerref01_From.mono_l k
  refine ⟨?_, ?_, ?_⟩
  · intro y0 y1 y2 y3
    unfold tumblerref01_From.j0
    repeat' first
    | (with_reducible exact ih0 _ _ _ _)
    | (with_reducible exact ih1 _ _ _ _ _)
    | (with_reducible exact ih2 _ _ _ _)
    | (with_reducible exact tumblerref01_make2.mono _ _ _)
    | (with_reducible exact LeO.refl _)
    | (with_reducible exact LeO.none _)
    | (with_reducible refine LeO.ite ?_ ?_)
    | (with_reducible refine LeO.bind ?_ (fun _ => ?_))
    | exact ih0 _ _ _ _
    | exact ih1 _ _ _ _ _
    | exact ih2 _ _ _ _
    | exact tumblerref01_make2.mono _ _ _
    | exact LeO.none _
    | refine LeO.ite ?_ ?_
    | refine LeO.bind ?_ (fun _ => ?_)
  · intro y0 y1 y2 y3 y4
    unfold tumblerref01_From.l0
    repeat' first
    | (with_reducible exact ih0 _ _ _ _)
    | (with_reducible exact ih1 _ _ _ _ _)
    | (with_reducible exact ih2 _ _ _ _)
    | (with_reducible exact tumblerref01_make2.mono _ _ _)
    | (with_reducible exact LeO.refl _)
    | (with_reducible exact LeO.none _)
    | (with_reducible refine LeO.ite ?_ ?_)
    | (with_reducible refine LeO.bind ?_ (fun _ => ?_))
    | exact ih0 _ _ _ _
    | exact ih1 _ _ _ _ _
    | exact ih2 _ _ _ _
    | exact tumblerref01_make2.mono _ _ _
    | exact LeO.none _
    | refine LeO.ite ?_ ?_
    | refine LeO.bind ?_ (fun _ => ?_)
  · intro y0 y1 y2 y3
    unfold tumblerref01_From.l1
    repeat' first
    | (with_reducible exact ih0 _ _ _ _)
    | (with_reducible exact ih1 _ _ _ _ _)
    | (with_reducible exact ih2 _ _ _ _)
    | (with_reducible exact tumblerref01_make2.mono _ _ _)
    | (with_reducible exact LeO.refl _)
    | (with_reducible exact LeO.none _)
    | (with_reducible refine LeO.ite ?_ ?_)
    | (with_reducible refine LeO.bind ?_ (fun _ => ?_))
    | exact ih0 _ _ _ _
    | exact ih1 _ _ _ _ _
    | exact ih2 _ _ _ _
    | exact tumblerref01_make2.mono _ _ _
    | exact LeO.none _
    | refine LeO.ite ?_ ?_
    | refine LeO.bind ?_ (fun _ => ?_)
theorem tumblerref01_From.mono : ∀ a0 a1 k, LeO (tumblerref01_From.f k a0 a1) (tumblerref01_From.f (k + 1) a0 a1) := by
 intro a0 a1 k
 obtain ⟨ih0, ih1, ih2⟩ := tumblerref01_From.mono_l k
 unfold tumblerref01_From.f
 repeat' first
  | (with_reducible exact ih0 _ _ _ _)
  | (with_reducible exact ih1 _ _ _ _ _)
  | (with_reducible exact ih2 _ _ _ _)
  | (with_reducible exact tumblerref01_make2.mono _ _ _)
  | (with_reducible exact LeO.refl _)
  | (with_reducible exact LeO.none _)
  | (with_reducible refine LeO.ite ?_ ?_)
  | (with_reducible refine LeO.bind ?_ (fun _ => ?_))
  | exact ih0 _ _ _ _
  | exact ih1 _ _ _ _ _
  | exact ih2 _ _ _ _
  | exact tumblerref01_make2.mono _ _ _
  | exact LeO.none _
  | refine LeO.ite ?_ ?_
  | refine LeO.bind ?_ (fun _ => ?_)
set_option maxHeartbeats 8000000 in
set_option maxRecDepth 100000 in
theorem tumblerref01_From.calls (k : Nat) (a0_0 : Int) (a0_1 : Int) (r1 : Bool) (r2 : List Int) (w : World) (h : tumblerref01_From.f k a0_0 a0_1 = some (r1, r2)) :
 Calls Tryd.prog 69 #[.agg #[.int .i64 a0_0, .int .u64 a0_1]] w fun e w' => ∃ v1_ : Value, e = .returned (.agg #[.bool r1, v1_]) ∧ Kd.V (Kd.int .u32) 121 w' w.heap.size (fun k_ => (w.heap.size ≤ k_)) v1_ r2 ∧ Below w.heap.size w w' := by
 have hu24 := Tryd.underlying24; have hu71 := Tryd.underlying71; have HB := am (Below.refl w.heap.size w); have H : (if a0_0 < 0 then (if (IntKind.u64.wrap ((Go.bits .xor .u64 18446744073709551615 a0_1) + 1)) = 0 then (tumblerref01_From.j0 k ([] : List Int) (IntKind.u64.wrap ((Go.bits .xor .u64 18446744073709551615 (IntKind.u64.wrap (a0_0))) + 1)) (IntKind.u64.wrap ((Go.bits .xor .u64 18446744073709551615 a0_1) + 1)) (decide (a0_0 < 0))) else (tumblerref01_From.j0 k ([] : List Int) (Go.bits .xor .u64 18446744073709551615 (IntKind.u64.wrap (a0_0))) (IntKind.u64.wrap ((Go.bits .xor .u64 18446744073709551615 a0_1) + 1)) (decide (a0_0 < 0)))) else (tumblerref01_From.j0 k ([] : List Int) (IntKind.u64.wrap (a0_0)) a0_1 (decide (a0_0 < 0)))) = some (r1, r2) := h; clear h; have HC2 := Aside0.mk H; clear H
 go_enter Tryd.func69, Tryd.ntmps69
 go_upto_if 17 with (first | ((with_reducible refine gate_dst (N := 1) rfl ?_); refine box_event ?hg (N := 1) ?hd (cs := #[.int .i64 a0_0, .int .u64 a0_1]) (t := 24) ?hr ?_; (case hd => rfl); (case hg => rfl); (case hr => first | (go_simp; done) | (go_simp; rfl)); intro gb144 hg w3 hbox hb; have n0_ := am (below_step bz hb); have n1_ := am (hbox); have n2_ := am ((by rw [hg]; exact (below_size bz) : w.heap.size ≤ gb144)); have n3_ := am ((by rw [hg]; exact (below_size bz) : w.heap.size ≤ gb144)); clear HB; have HB := n0_; have BK144 := n1_; have GW144 := n2_; have GE144 := n3_; clear n0_ n1_ n2_ n3_; clear hb hbox hg) | ((with_reducible refine gate_dst (N := 2) rfl ?_); refine box_event ?hg (N := 2) ?hd (cs := #[.bool false, .slice none 0 0]) (t := 71) ?hr ?_; (case hd => rfl); (case hg => rfl); (case hr => first | (go_simp; done) | (go_simp; rfl)); intro gb145 hg w4 hbox hb; have n0_ := am (bb BK144 hb); have n1_ := am (below_step bz hb); have n2_ := am (hbox); have n3_ := am ((by rw [hg]; exact (below_size bz) : w.heap.size ≤ gb145)); have n4_ := am ((by rw [hg]; exact (below_size bz) : w.heap.size ≤ gb145)); have n5_ := am ((by rw [hg]; exact Nat.ne_of_lt (bl BK144) : gb144 ≠ gb145)); have n6_ := am ((by rw [hg]; exact Nat.ne_of_gt (bl BK144) : gb145 ≠ gb144)); clear BK144; clear HB; have BK144 := n0_; have HB := n1_; have BK145 := n2_; have GW145 := n3_; have GE145 := n4_; have NB144_145 := n5_; have NB145_144 := n6_; clear n0_ n1_ n2_ n3_ n4_ n5_ n6_; clear hb hbox hg; have hnb5 := NB144_145.out; have hnc5 := NB145_144.out; have hcz6_0 : w4.cell? ⟨gb144, 0, none⟩ = some (.int .i64 a0_0) := (blk_cell BK144.out 0).trans rfl; have hcz6_1 : w4.cell? ⟨gb144, 1, none⟩ = some (.int .u64 a0_1) := (blk_cell BK144.out 1).trans rfl; have hfz6_0 := blk_frozen BK144.out 0; have hfz6_1 := blk_frozen BK144.out 1))
 repeat (go_quiet (first | ((with_reducible refine gate_dst (N := 1) rfl ?_); refine box_event ?hg (N := 1) ?hd (cs := #[.int .i64 a0_0, .int .u64 a0_1]) (t := 24) ?hr ?_; (case hd => rfl); (case hg => rfl); (case hr => first | (go_simp; done) | (go_simp; rfl)); intro gb144 hg w3 hbox hb; have n0_ := am (below_step bz hb); have n1_ := am (hbox); have n2_ := am ((by rw [hg]; exact (below_size bz) : w.heap.size ≤ gb144)); have n3_ := am ((by rw [hg]; exact (below_size bz) : w.heap.size ≤ gb144)); clear HB; have HB := n0_; have BK144 := n1_; have GW144 := n2_; have GE144 := n3_; clear n0_ n1_ n2_ n3_; clear hb hbox hg) | ((with_reducible refine gate_dst (N := 2) rfl ?_); refine box_event ?hg (N := 2) ?hd (cs := #[.bool false, .slice none 0 0]) (t := 71) ?hr ?_; (case hd => rfl); (case hg => rfl); (case hr => first | (go_simp; done) | (go_simp; rfl)); intro gb145 hg w4 hbox hb; have n0_ := am (bb BK144 hb); have n1_ := am (below_step bz hb); have n2_ := am (hbox); have n3_ := am ((by rw [hg]; exact (below_size bz) : w.heap.size ≤ gb145)); have n4_ := am ((by rw [hg]; exact (below_size bz) : w.heap.size ≤ gb145)); have n5_ := am ((by rw [hg]; exact Nat.ne_of_lt (bl BK144) : gb144 ≠ gb145)); have n6_ := am ((by rw [hg]; exact Nat.ne_of_gt (bl BK144) : gb145 ≠ gb144)); clear BK144; clear HB; have BK144 := n0_; have HB := n1_; have BK145 := n2_; have GW145 := n3_; have GE145 := n4_; have NB144_145 := n5_; have NB145_144 := n6_; clear n0_ n1_ n2_ n3_ n4_ n5_ n6_; clear hb hbox hg; have hnb5 := NB144_145.out; have hnc5 := NB145_144.out; have hcz6_0 : w4.cell? ⟨gb144, 0, none⟩ = some (.int .i64 a0_0) := (blk_cell BK144.out 0).trans rfl; have hcz6_1 : w4.cell? ⟨gb144, 1, none⟩ = some (.int .u64 a0_1) := (blk_cell BK144.out 1).trans rfl; have hfz6_0 := blk_frozen BK144.out 0; have hfz6_1 := blk_frozen BK144.out 1)); go_upto_if 17 with (first | ((with_reducible refine gate_dst (N := 1) rfl ?_); refine box_event ?hg (N := 1) ?hd (cs := #[.int .i64 a0_0, .int .u64 a0_1]) (t := 24) ?hr ?_; (case hd => rfl); (case hg => rfl); (case hr => first | (go_simp; done) | (go_simp; rfl)); intro gb144 hg w3 hbox hb; have n0_ := am (below_step bz hb); have n1_ := am (hbox); have n2_ := am ((by rw [hg]; exact (below_size bz) : w.heap.size ≤ gb144)); have n3_ := am ((by rw [hg]; exact (below_size bz) : w.heap.size ≤ gb144)); clear HB; have HB := n0_; have BK144 := n1_; have GW144 := n2_; have GE144 := n3_; clear n0_ n1_ n2_ n3_; clear hb hbox hg) | ((with_reducible refine gate_dst (N := 2) rfl ?_); refine box_event ?hg (N := 2) ?hd (cs := #[.bool false, .slice none 0 0]) (t := 71) ?hr ?_; (case hd => rfl); (case hg => rfl); (case hr => first | (go_simp; done) | (go_simp; rfl)); intro gb145 hg w4 hbox hb; have n0_ := am (bb BK144 hb); have n1_ := am (below_step bz hb); have n2_ := am (hbox); have n3_ := am ((by rw [hg]; exact (below_size bz) : w.heap.size ≤ gb145)); have n4_ := am ((by rw [hg]; exact (below_size bz) : w.heap.size ≤ gb145)); have n5_ := am ((by rw [hg]; exact Nat.ne_of_lt (bl BK144) : gb144 ≠ gb145)); have n6_ := am ((by rw [hg]; exact Nat.ne_of_gt (bl BK144) : gb145 ≠ gb144)); clear BK144; clear HB; have BK144 := n0_; have HB := n1_; have BK145 := n2_; have GW145 := n3_; have GE145 := n4_; have NB144_145 := n5_; have NB145_144 := n6_; clear n0_ n1_ n2_ n3_ n4_ n5_ n6_; clear hb hbox hg; have hnb5 := NB144_145.out; have hnc5 := NB145_144.out; have hcz6_0 : w4.cell? ⟨gb144, 0, none⟩ = some (.int .i64 a0_0) := (blk_cell BK144.out 0).trans rfl; have hcz6_1 : w4.cell? ⟨gb144, 1, none⟩ = some (.int .u64 a0_1) := (blk_cell BK144.out 1).trans rfl; have hfz6_0 := blk_frozen BK144.out 0; have hfz6_1 := blk_frozen BK144.out 1)))
 (try simp only [Act.put, List.setIfInBounds_toArray, List.set_cons_zero, List.set_cons_succ])
 generalize hz_ : decide (a0_0 < 0) = z_
 go_cut [4, 5] (fun v4 v5 wc => ∃ (kq : Nat) (x4_1 : Int) (x5_1 : Int), v4 = .int .u64 x4_1 ∧ v5 = .int .u64 x5_1 ∧ Aside0 (tumblerref01_From.j0 kq ([] : List Int) x4_1 x5_1 z_ = some (r1, r2)) ∧ Aside0 (kq ≤ k) ∧ Aside0 (Kd.R (Kd.int .u32) 121 wc w.heap.size (fun k_ => (w.heap.size ≤ k_)) (.slice none 0 0) ([] : List Int)) ∧ Aside0 (wc.heap[gb144]? = some (.cells #[.int .i64 a0_0, .int .u64 a0_1] 24 (0, 0))) ∧ Aside0 (wc.heap[gb145]? = some (.cells #[.bool false, (.slice none 0 0)] 71 (0, 0))) ∧ Aside0 (Below w.heap.size w wc))
 case first =>
  have H := HC2.out; clear HC2
  by_cases c7 : a0_0 < 0
  · rw [if_pos c7] at H
    have c7b0 : decide (a0_0 < 0) = true := decide_eq_true c7; clear c7
    rw [c7b0] at H hz_; subst hz_
    by_cases c8 : (IntKind.u64.wrap ((Go.bits .xor .u64 18446744073709551615 a0_1) + 1)) = 0
    · rw [if_pos c8] at H
      have c8b0 : ((IntKind.u64.wrap ((Go.bits .xor .u64 18446744073709551615 a0_1) + 1)) == 0) = true := beq_iff_eq.mpr c8; have c8b1 : ((IntKind.u64.wrap ((Go.bits .xor .u64 18446744073709551615 a0_1) + 1)) != 0) = false := bne_eq_false_iff_eq.mpr c8; clear c8; have H' := Aside0.mk H; clear H; have c8b0M : ((IntKind.u64.wrap ((Go.bits .xor .u64 IntKind.u64.max a0_1) + 1)) == 0) = true := c8b0; have c8b0N : ((IntKind.u64.wrap ((Go.bits .xor .u64 (if IntKind.u64.signed = true then -1 else IntKind.u64.max) a0_1) + 1)) == 0) = true := c8b0; have c8b1M : ((IntKind.u64.wrap ((Go.bits .xor .u64 IntKind.u64.max a0_1) + 1)) != 0) = false := c8b1; have c8b1N : ((IntKind.u64.wrap ((Go.bits .xor .u64 (if IntKind.u64.signed = true then -1 else IntKind.u64.max) a0_1) + 1)) != 0) = false := c8b1
      go_wp2
      repeat (go_quiet (fail); try go_wp2)
      go_meet
      case rel => exact ⟨_, (IntKind.u64.wrap ((Go.bits .xor .u64 18446744073709551615 (IntKind.u64.wrap (a0_0))) + 1)), (IntKind.u64.wrap ((Go.bits .xor .u64 18446744073709551615 a0_1) + 1)), (by first | rfl | (simp; done) | (simp [*]; done)), (by first | rfl | (simp; done) | (simp [*]; done)), H', ⟨by first | omega | exact Nat.le_refl _⟩, ⟨by first | exact Kd.R_nil _ _ _ _ _ | exact Kd.N_nil _ _ _ _ _ | exact Kd.V_nil _ _ _ _ _ | exact Kd.Q_nil _ _ _ _ _ | exact Kd.S_nil _ _ _ _ _⟩, ⟨by (with_reducible repeat (first | apply bA | apply bB | apply bC)); exact BK144.out⟩, ⟨by (with_reducible repeat (first | apply bA | apply bB | apply bC)); exact BK145.out⟩, ⟨by repeat (first | (with_reducible first | exact HB.out | apply dA | apply dB | apply dC | refine dE ?_ ‹_›) | exact HB.out)⟩⟩
    · rw [if_neg c8] at H
      have c8b0 : ((IntKind.u64.wrap ((Go.bits .xor .u64 18446744073709551615 a0_1) + 1)) == 0) = false := beq_eq_false_iff_ne.mpr c8; have c8b1 : ((IntKind.u64.wrap ((Go.bits .xor .u64 18446744073709551615 a0_1) + 1)) != 0) = true := bne_iff_ne.mpr c8; have H' := Aside0.mk H; clear H; have c8b0M : ((IntKind.u64.wrap ((Go.bits .xor .u64 IntKind.u64.max a0_1) + 1)) == 0) = false := c8b0; have c8b0N : ((IntKind.u64.wrap ((Go.bits .xor .u64 (if IntKind.u64.signed = true then -1 else IntKind.u64.max) a0_1) + 1)) == 0) = false := c8b0; have c8b1M : ((IntKind.u64.wrap ((Go.bits .xor .u64 IntKind.u64.max a0_1) + 1)) != 0) = true := c8b1; have c8b1N : ((IntKind.u64.wrap ((Go.bits .xor .u64 (if IntKind.u64.signed = true then -1 else IntKind.u64.max) a0_1) + 1)) != 0) = true := c8b1
      go_wp2
      repeat (go_quiet (fail); try go_wp2)
      go_meet
      case rel => exact ⟨_, (Go.bits .xor .u64 18446744073709551615 (IntKind.u64.wrap (a0_0))), (IntKind.u64.wrap ((Go.bits .xor .u64 18446744073709551615 a0_1) + 1)), (by first | rfl | (simp; done) | (simp [*]; done)), (by first | rfl | (simp; done) | (simp [*]; done)), H', ⟨by first | omega | exact Nat.le_refl _⟩, ⟨by first | exact Kd.R_nil _ _ _ _ _ | exact Kd.N_nil _ _ _ _ _ | exact Kd.V_nil _ _ _ _ _ | exact Kd.Q_nil _ _ _ _ _ | exact Kd.S_nil _ _ _ _ _⟩, ⟨by (with_reducible repeat (first | apply bA | apply bB | apply bC)); exact BK144.out⟩, ⟨by (with_reducible repeat (first | apply bA | apply bB | apply bC)); exact BK145.out⟩, ⟨by repeat (first | (with_reducible first | exact HB.out | apply dA | apply dB | apply dC | refine dE ?_ ‹_›) | exact HB.out)⟩⟩
  · rw [if_neg c7] at H
    have c7b0 : decide (a0_0 < 0) = false := decide_eq_false c7; clear c7
    rw [c7b0] at H hz_; subst hz_
    have H' := Aside0.mk H; clear H
    go_wp2
    repeat (go_quiet (fail); try go_wp2)
    go_meet
    case rel => exact ⟨_, (IntKind.u64.wrap (a0_0)), (a0_1), (by first | rfl | (simp; done) | (simp [*]; done)), (by first | rfl | (simp; done) | (simp [*]; done)), H', ⟨by first | omega | exact Nat.le_refl _⟩, ⟨by first | exact Kd.R_nil _ _ _ _ _ | exact Kd.N_nil _ _ _ _ _ | exact Kd.V_nil _ _ _ _ _ | exact Kd.Q_nil _ _ _ _ _ | exact Kd.S_nil _ _ _ _ _⟩, ⟨by (with_reducible repeat (first | apply bA | apply bB | apply bC)); exact BK144.out⟩, ⟨by (with_reducible repeat (first | apply bA | apply bB | apply bC)); exact BK145.out⟩, ⟨by repeat (first | (with_reducible first | exact HB.out | apply dA | apply dB | apply dC | refine dE ?_ ‹_›) | exact HB.out)⟩⟩
 case rest =>
  clear HC2
  try clear p2
  try clear c5
  try clear c6
  try clear c7
  try clear c7b0
  try clear c8
  try clear c8b0
  try clear c8b1
  try clear hcz6_0
  try clear hcz6_1
  try clear hfz6_0
  try clear hfz6_1
  obtain ⟨kq, x4_1, x5_1, rfl, rfl, HA, HJ1, HO_3, BK144, BK145, HB⟩ := hcut
  cases kq with
  | zero => exact absurd HA.out (by simp [tumblerref01_From.j0])
  | succ kj1 =>
   have H := HA.out; clear HA
   simp only [tumblerref01_From.j0] at H
   have H' := Aside0.mk H; clear H
   go_wp2
   repeat (go_quiet (fail); try go_wp2)
   go_loopg [3, 7] kj1 (fun kq v3 v7 w' => ∃ (x3_2 : List Int) (x7_2 : Int), v7 = .int .i64 x7_2 ∧ Aside0 (tumblerref01_From.l0 kq x3_2 x4_1 x5_1 z_ x7_2 = some (r1, r2)) ∧ Aside0 (kq ≤ kj1) ∧ Aside0 (Kd.R (Kd.int .u32) 121 w' w.heap.size (fun k_ => (w.heap.size ≤ k_)) v3 x3_2) ∧ Aside0 (w'.heap[gb144]? = some (.cells #[.int .i64 a0_0, .int .u64 a0_1] 24 (0, 0))) ∧ Aside0 (w'.heap[gb145]? = some (.cells #[.bool false, (.slice none 0 0)] 71 (0, 0))) ∧ Aside0 (Below w.heap.size w w'))
   case atStart => exact ⟨(([] : List Int)), (0), (by first | rfl | (simp; done) | (simp [*]; done)), H', ⟨Nat.le_refl _⟩, ⟨by (with_reducible repeat (first | apply Kd.R_alloc | apply Kd.R_drewN | apply Kd.R_drew)); exact HO_3.out⟩, ⟨by (with_reducible repeat (first | apply bA | apply bB | apply bC)); exact BK144.out⟩, ⟨by (with_reducible repeat (first | apply bA | apply bB | apply bC)); exact BK145.out⟩, ⟨by repeat (first | (with_reducible first | exact HB.out | apply dA | apply dB | apply dC | refine dE ?_ ‹_›) | exact HB.out)⟩⟩
   case round =>
    clear H'
    try clear p2
    try clear c5
    try clear c6
    try clear c7
    try clear c7b0
    try clear c8
    try clear c8b0
    try clear c8b1
    try clear hcz6_0
    try clear hcz6_1
    try clear hfz6_0
    try clear hfz6_1
    try clear p2
    obtain ⟨x3_2, x7_2, rfl, HA, HK2, HO_3, BK144, BK145, HB⟩ := hrel
    cases gk with
    | zero => exact absurd HA.out (by simp [tumblerref01_From.l0])
    | succ k2 =>
     have H := HA.out; clear HA
     simp only [tumblerref01_From.l0] at H
     by_cases c9 : x7_2 < 4
     · rw [if_pos c9] at H
       have c9b0 : decide (x7_2 < 4) = true := decide_eq_true c9; clear c9
       obtain ⟨ji10, hji10⟩ : ∃ j_ : Int, (IntKind.u64.wrap (16 * (IntKind.u64.wrap (x7_2)))) = j_ := ⟨_, rfl⟩
       replace H : (if 0 ≤ (ji10) then (if x3_2.length < 35184372088832 then (tumblerref01_From.l0 k2 (x3_2 ++ [Go.bits .and .u32 ((shr .u64 x5_1 (ji10)) % 4294967296) 65535]) x4_1 x5_1 z_ (wrap64 (x7_2 + 1))) else (none)) else (none)) = some (r1, r2) := by first | (rw [hji10] at H; exact H) | (simp only [hji10] at H ⊢; exact H)
       by_cases c11 : 0 ≤ (ji10)
       · rw [if_pos c11] at H
         have c11b0 := eq_true c11; have c11b1 : decide (0 ≤ (ji10)) = true := decide_eq_true c11; clear c11
         obtain ⟨ji12, hji12⟩ : ∃ j_ : Int, (shr .u64 x5_1 (ji10)) = j_ := ⟨_, rfl⟩
         replace H : (if x3_2.length < 35184372088832 then (tumblerref01_From.l0 k2 (x3_2 ++ [Go.bits .and .u32 ((ji12) % 4294967296) 65535]) x4_1 x5_1 z_ (wrap64 (x7_2 + 1))) else (none)) = some (r1, r2) := by first | (rw [hji12] at H; exact H) | (simp only [hji12] at H ⊢; exact H)
         have hji12_ : (x5_1 / 2 ^ min (ji10).toNat 64) = ji12 := hji12; have hji12z : (ji10) ≤ 64 → (x5_1 / 2 ^ (ji10).toNat) = ji12 := shr_small hji12
         by_cases c13 : x3_2.length < 35184372088832
         · rw [if_pos c13] at H
           have LMc13 := Aside0.mk c13; clear c13
           obtain ⟨y146, hy146⟩ : ∃ y_ : List Int, y_ = (x3_2 ++ [Go.bits .and .u32 ((ji12) % 4294967296) 65535]) := ⟨_, rfl⟩
           replace H : (tumblerref01_From.l0 k2 y146 x4_1 x5_1 z_ (wrap64 (x7_2 + 1))) = some (r1, r2) := by first | (rw [hy146]; with_reducible exact H) | (have H2_ := (Option.bind_some _ _).symm.trans H; rw [hy146]; with_reducible exact H2_) | (have H2_ := (Option.bind_some _ _).symm.trans H; with_reducible exact H2_) | with_reducible exact H | (rw [hy146]; exact H) | exact H
           have Ny146 := Aside0.mk hy146; clear hy146; have H' := Aside0.mk H; clear H
           go_wp2_with (first | ((with_reducible refine gate_builtin (b := .append) (xs := #[.tmp 31, .tmp 39]) rfl ?_); at_builtin; refine Kd.R_append (Kd.int .u32) (w0 := w) w.heap.size rfl (.tmp 31) (.tmp 39) 69 121 (.int .u32 0) 4 rfl Tryd.underlying69 info121 rfl (by decide) (by omega) u3 x3_2 (Go.bits .and .u32 ((ji12) % 4294967296) 65535) [.int .u32 (Go.bits .and .u32 ((ji12) % 4294967296) 65535)] (fun k_ => (w.heap.size ≤ k_)) (fun _ => False) rfl rfl ?aP (fun _ hk => hk.elim) ?aF ?aO ?aB ?aS ?aL ?_; (case aP => exact rfl); (case aB => exact bz); (case aF => exact (fun k_ hk => (Nat.le_trans (below_size bz) hk))); (case aO => exact (by (with_reducible repeat (first | apply Kd.R_alloc | apply Kd.R_drewN | apply Kd.R_drew)); exact HO_3.out)); (case aS => exact (below_size bz)); (case aL => have := LMc13.out; omega); intro v147 w14 ho hb hg hat; rw [← Ny146.out] at ho; have n0_ := am (blk_grown (g := gb144) (o := .cells #[.int .i64 a0_0, .int .u64 a0_1] 24 (0, 0)) (bq BK144) hg (Kd.R_ne HO_3.out BK144.out (by decide))); have n1_ := am (blk_grown (g := gb145) (o := .cells #[.bool false, .slice none 0 0] 71 (0, 0)) (bq BK145) hg (Kd.R_ne HO_3.out BK145.out (by decide))); have n2_ := am (hb); have n3_ := am (ho); clear BK144; clear BK145; clear HB; clear HO_3; have BK144 := n0_; have BK145 := n1_; have HB := n2_; have HO148 := n3_; clear n0_ n1_ n2_ n3_; clear ho hb hg hat))
           repeat (go_quiet (first | ((with_reducible refine gate_builtin (b := .append) (xs := #[.tmp 31, .tmp 39]) rfl ?_); at_builtin; refine Kd.R_append (Kd.int .u32) (w0 := w) w.heap.size rfl (.tmp 31) (.tmp 39) 69 121 (.int .u32 0) 4 rfl Tryd.underlying69 info121 rfl (by decide) (by omega) u3 x3_2 (Go.bits .and .u32 ((ji12) % 4294967296) 65535) [.int .u32 (Go.bits .and .u32 ((ji12) % 4294967296) 65535)] (fun k_ => (w.heap.size ≤ k_)) (fun _ => False) rfl rfl ?aP (fun _ hk => hk.elim) ?aF ?aO ?aB ?aS ?aL ?_; (case aP => exact rfl); (case aB => exact bz); (case aF => exact (fun k_ hk => (Nat.le_trans (below_size bz) hk))); (case aO => exact (by (with_reducible repeat (first | apply Kd.R_alloc | apply Kd.R_drewN | apply Kd.R_drew)); exact HO_3.out)); (case aS => exact (below_size bz)); (case aL => have := LMc13.out; omega); intro v147 w14 ho hb hg hat; rw [← Ny146.out] at ho; have n0_ := am (blk_grown (g := gb144) (o := .cells #[.int .i64 a0_0, .int .u64 a0_1] 24 (0, 0)) (bq BK144) hg (Kd.R_ne HO_3.out BK144.out (by decide))); have n1_ := am (blk_grown (g := gb145) (o := .cells #[.bool false, .slice none 0 0] 71 (0, 0)) (bq BK145) hg (Kd.R_ne HO_3.out BK145.out (by decide))); have n2_ := am (hb); have n3_ := am (ho); clear BK144; clear BK145; clear HB; clear HO_3; have BK144 := n0_; have BK145 := n1_; have HB := n2_; have HO148 := n3_; clear n0_ n1_ n2_ n3_; clear ho hb hg hat)); try go_wp2_with (first | ((with_reducible refine gate_builtin (b := .append) (xs := #[.tmp 31, .tmp 39]) rfl ?_); at_builtin; refine Kd.R_append (Kd.int .u32) (w0 := w) w.heap.size rfl (.tmp 31) (.tmp 39) 69 121 (.int .u32 0) 4 rfl Tryd.underlying69 info121 rfl (by decide) (by omega) u3 x3_2 (Go.bits .and .u32 ((ji12) % 4294967296) 65535) [.int .u32 (Go.bits .and .u32 ((ji12) % 4294967296) 65535)] (fun k_ => (w.heap.size ≤ k_)) (fun _ => False) rfl rfl ?aP (fun _ hk => hk.elim) ?aF ?aO ?aB ?aS ?aL ?_; (case aP => exact rfl); (case aB => exact bz); (case aF => exact (fun k_ hk => (Nat.le_trans (below_size bz) hk))); (case aO => exact (by (with_reducible repeat (first | apply Kd.R_alloc | apply Kd.R_drewN | apply Kd.R_drew)); exact HO_3.out)); (case aS => exact (below_size bz)); (case aL => have := LMc13.out; omega); intro v147 w14 ho hb hg hat; rw [← Ny146.out] at ho; have n0_ := am (blk_grown (g := gb144) (o := .cells #[.int .i64 a0_0, .int .u64 a0_1] 24 (0, 0)) (bq BK144) hg (Kd.R_ne HO_3.out BK144.out (by decide))); have n1_ := am (blk_grown (g := gb145) (o := .cells #[.bool false, .slice none 0 0] 71 (0, 0)) (bq BK145) hg (Kd.R_ne HO_3.out BK145.out (by decide))); have n2_ := am (hb); have n3_ := am (ho); clear BK144; clear BK145; clear HB; clear HO_3; have BK144 := n0_; have BK145 := n1_; have HB := n2_; have HO148 := n3_; clear n0_ n1_ n2_ n3_; clear ho hb hg hat)))
           go_roundg k2
           case measure => have := HJ1.out; have := HK2.out; omega
           case rel => exact ⟨(y146), (wrap64 (x7_2 + 1)), (by first | rfl | (simp; done) | (simp [*]; done)), H', ⟨by have := HJ1.out; have := HK2.out; omega⟩, ⟨by (with_reducible repeat (first | apply Kd.R_alloc | apply Kd.R_drewN | apply Kd.R_drew)); exact HO148.out⟩, ⟨by (with_reducible repeat (first | apply bA | apply bB | apply bC)); exact BK144.out⟩, ⟨by (with_reducible repeat (first | apply bA | apply bB | apply bC)); exact BK145.out⟩, ⟨by repeat (first | (with_reducible first | exact HB.out | apply dA | apply dB | apply dC | refine dE ?_ ‹_›) | exact HB.out)⟩⟩
         · rw [if_neg c13] at H
           exact absurd H (by simp)
       · rw [if_neg c11] at H
         exact absurd H (by simp)
     · rw [if_neg c9] at H
       have c9b0 : decide (x7_2 < 4) = false := decide_eq_false c9; clear c9; have H' := Aside0.mk H; clear H
       go_wp2
       repeat (go_quiet (fail); try go_wp2)
       go_loopg [3, 8] k2 (fun kq v3 v8 w' => ∃ (x3_3 : List Int) (x8_3 : Int), v8 = .int .i64 x8_3 ∧ Aside0 (tumblerref01_From.l1 kq x3_3 x4_1 z_ x8_3 = some (r1, r2)) ∧ Aside0 (kq ≤ k2) ∧ Aside0 (Kd.R (Kd.int .u32) 121 w' w.heap.size (fun k_ => (w.heap.size ≤ k_)) v3 x3_3) ∧ Aside0 (w'.heap[gb144]? = some (.cells #[.int .i64 a0_0, .int .u64 a0_1] 24 (0, 0))) ∧ Aside0 (w'.heap[gb145]? = some (.cells #[.bool false, (.slice none 0 0)] 71 (0, 0))) ∧ Aside0 (Below w.heap.size w w'))
       case atStart => exact ⟨(x3_2), (0), (by first | rfl | (simp; done) | (simp [*]; done)), H', ⟨Nat.le_refl _⟩, ⟨by (with_reducible repeat (first | apply Kd.R_alloc | apply Kd.R_drewN | apply Kd.R_drew)); exact HO_3.out⟩, ⟨by (with_reducible repeat (first | apply bA | apply bB | apply bC)); exact BK144.out⟩, ⟨by (with_reducible repeat (first | apply bA | apply bB | apply bC)); exact BK145.out⟩, ⟨by repeat (first | (with_reducible first | exact HB.out | apply dA | apply dB | apply dC | refine dE ?_ ‹_›) | exact HB.out)⟩⟩
       case round =>
        clear H'
        try clear c1
        try clear p2
        try clear c5
        try clear c6
        try clear p6
        try clear c7
        try clear c7b0
        try clear c8
        try clear c8b0
        try clear c8b1
        try clear c9
        try clear c9b0
        try clear c11
        try clear c11b0
        try clear c11b1
        try clear c13
        try clear hcz6_0
        try clear hcz6_1
        try clear hfz6_0
        try clear hfz6_1
        try clear p2
        obtain ⟨x3_3, x8_3, rfl, HA, HK3, HO_3, BK144, BK145, HB⟩ := hrel
        cases gk with
        | zero => exact absurd HA.out (by simp [tumblerref01_From.l1])
        | succ k3 =>
         have H := HA.out; clear HA
         simp only [tumblerref01_From.l1] at H
         by_cases c15 : x8_3 < 4
         · rw [if_pos c15] at H
           have c15b0 : decide (x8_3 < 4) = true := decide_eq_true c15; clear c15
           obtain ⟨ji16, hji16⟩ : ∃ j_ : Int, (IntKind.u64.wrap (16 * (IntKind.u64.wrap (x8_3)))) = j_ := ⟨_, rfl⟩
           replace H : (if 0 ≤ (ji16) then (if x3_3.length < 35184372088832 then (tumblerref01_From.l1 k3 (x3_3 ++ [Go.bits .and .u32 ((shr .u64 x4_1 (ji16)) % 4294967296) 65535]) x4_1 z_ (wrap64 (x8_3 + 1))) else (none)) else (none)) = some (r1, r2) := by first | (rw [hji16] at H; exact H) | (simp only [hji16] at H ⊢; exact H)
           by_cases c17 : 0 ≤ (ji16)
           · rw [if_pos c17] at H
             have c17b0 := eq_true c17; have c17b1 : decide (0 ≤ (ji16)) = true := decide_eq_true c17; clear c17
             obtain ⟨ji18, hji18⟩ : ∃ j_ : Int, (shr .u64 x4_1 (ji16)) = j_ := ⟨_, rfl⟩
             replace H : (if x3_3.length < 35184372088832 then (tumblerref01_From.l1 k3 (x3_3 ++ [Go.bits .and .u32 ((ji18) % 4294967296) 65535]) x4_1 z_ (wrap64 (x8_3 + 1))) else (none)) = some (r1, r2) := by first | (rw [hji18] at H; exact H) | (simp only [hji18] at H ⊢; exact H)
             have hji18_ : (x4_1 / 2 ^ min (ji16).toNat 64) = ji18 := hji18; have hji18z : (ji16) ≤ 64 → (x4_1 / 2 ^ (ji16).toNat) = ji18 := shr_small hji18
             by_cases c19 : x3_3.length < 35184372088832
             · rw [if_pos c19] at H
               have LMc19 := Aside0.mk c19; clear c19
               obtain ⟨y149, hy149⟩ : ∃ y_ : List Int, y_ = (x3_3 ++ [Go.bits .and .u32 ((ji18) % 4294967296) 65535]) := ⟨_, rfl⟩
               replace H : (tumblerref01_From.l1 k3 y149 x4_1 z_ (wrap64 (x8_3 + 1))) = some (r1, r2) := by first | (rw [hy149]; with_reducible exact H) | (have H2_ := (Option.bind_some _ _).symm.trans H; rw [hy149]; with_reducible exact H2_) | (have H2_ := (Option.bind_some _ _).symm.trans H; with_reducible exact H2_) | with_reducible exact H | (rw [hy149]; exact H) | exact H
               have Ny149 := Aside0.mk hy149; clear hy149; have H' := Aside0.mk H; clear H
               go_wp2_with (first | ((with_reducible refine gate_builtin (b := .append) (xs := #[.tmp 45, .tmp 53]) rfl ?_); at_builtin; refine Kd.R_append (Kd.int .u32) (w0 := w) w.heap.size rfl (.tmp 45) (.tmp 53) 69 121 (.int .u32 0) 4 rfl Tryd.underlying69 info121 rfl (by decide) (by omega) u3 x3_3 (Go.bits .and .u32 ((ji18) % 4294967296) 65535) [.int .u32 (Go.bits .and .u32 ((ji18) % 4294967296) 65535)] (fun k_ => (w.heap.size ≤ k_)) (fun _ => False) rfl rfl ?aP (fun _ hk => hk.elim) ?aF ?aO ?aB ?aS ?aL ?_; (case aP => exact rfl); (case aB => exact bz); (case aF => exact (fun k_ hk => (Nat.le_trans (below_size bz) hk))); (case aO => exact (by (with_reducible repeat (first | apply Kd.R_alloc | apply Kd.R_drewN | apply Kd.R_drew)); exact HO_3.out)); (case aS => exact (below_size bz)); (case aL => have := LMc19.out; omega); intro v150 w20 ho hb hg hat; rw [← Ny149.out] at ho; have n0_ := am (blk_grown (g := gb144) (o := .cells #[.int .i64 a0_0, .int .u64 a0_1] 24 (0, 0)) (bq BK144) hg (Kd.R_ne HO_3.out BK144.out (by decide))); have n1_ := am (blk_grown (g := gb145) (o := .cells #[.bool false, .slice none 0 0] 71 (0, 0)) (bq BK145) hg (Kd.R_ne HO_3.out BK145.out (by decide))); have n2_ := am (hb); have n3_ := am (ho); clear BK144; clear BK145; clear HB; clear HO_3; have BK144 := n0_; have BK145 := n1_; have HB := n2_; have HO151 := n3_; clear n0_ n1_ n2_ n3_; clear ho hb hg hat))
               repeat (go_quiet (first | ((with_reducible refine gate_builtin (b := .append) (xs := #[.tmp 45, .tmp 53]) rfl ?_); at_builtin; refine Kd.R_append (Kd.int .u32) (w0 := w) w.heap.size rfl (.tmp 45) (.tmp 53) 69 121 (.int .u32 0) 4 rfl Tryd.underlying69 info121 rfl (by decide) (by omega) u3 x3_3 (Go.bits .and .u32 ((ji18) % 4294967296) 65535) [.int .u32 (Go.bits .and .u32 ((ji18) % 4294967296) 65535)] (fun k_ => (w.heap.size ≤ k_)) (fun _ => False) rfl rfl ?aP (fun _ hk => hk.elim) ?aF ?aO ?aB ?aS ?aL ?_; (case aP => exact rfl); (case aB => exact bz); (case aF => exact (fun k_ hk => (Nat.le_trans (below_size bz) hk))); (case aO => exact (by (with_reducible repeat (first | apply Kd.R_alloc | apply Kd.R_drewN | apply Kd.R_drew)); exact HO_3.out)); (case aS => exact (below_size bz)); (case aL => have := LMc19.out; omega); intro v150 w20 ho hb hg hat; rw [← Ny149.out] at ho; have n0_ := am (blk_grown (g := gb144) (o := .cells #[.int .i64 a0_0, .int .u64 a0_1] 24 (0, 0)) (bq BK144) hg (Kd.R_ne HO_3.out BK144.out (by decide))); have n1_ := am (blk_grown (g := gb145) (o := .cells #[.bool false, .slice none 0 0] 71 (0, 0)) (bq BK145) hg (Kd.R_ne HO_3.out BK145.out (by decide))); have n2_ := am (hb); have n3_ := am (ho); clear BK144; clear BK145; clear HB; clear HO_3; have BK144 := n0_; have BK145 := n1_; have HB := n2_; have HO151 := n3_; clear n0_ n1_ n2_ n3_; clear ho hb hg hat)); try go_wp2_with (first | ((with_reducible refine gate_builtin (b := .append) (xs := #[.tmp 45, .tmp 53]) rfl ?_); at_builtin; refine Kd.R_append (Kd.int .u32) (w0 := w) w.heap.size rfl (.tmp 45) (.tmp 53) 69 121 (.int .u32 0) 4 rfl Tryd.underlying69 info121 rfl (by decide) (by omega) u3 x3_3 (Go.bits .and .u32 ((ji18) % 4294967296) 65535) [.int .u32 (Go.bits .and .u32 ((ji18) % 4294967296) 65535)] (fun k_ => (w.heap.size ≤ k_)) (fun _ => False) rfl rfl ?aP (fun _ hk => hk.elim) ?aF ?aO ?aB ?aS ?aL ?_; (case aP => exact rfl); (case aB => exact bz); (case aF => exact (fun k_ hk => (Nat.le_trans (below_size bz) hk))); (case aO => exact (by (with_reducible repeat (first | apply Kd.R_alloc | apply Kd.R_drewN | apply Kd.R_drew)); exact HO_3.out)); (case aS => exact (below_size bz)); (case aL => have := LMc19.out; omega); intro v150 w20 ho hb hg hat; rw [← Ny149.out] at ho; have n0_ := am (blk_grown (g := gb144) (o := .cells #[.int .i64 a0_0, .int .u64 a0_1] 24 (0, 0)) (bq BK144) hg (Kd.R_ne HO_3.out BK144.out (by decide))); have n1_ := am (blk_grown (g := gb145) (o := .cells #[.bool false, .slice none 0 0] 71 (0, 0)) (bq BK145) hg (Kd.R_ne HO_3.out BK145.out (by decide))); have n2_ := am (hb); have n3_ := am (ho); clear BK144; clear BK145; clear HB; clear HO_3; have BK144 := n0_; have BK145 := n1_; have HB := n2_; have HO151 := n3_; clear n0_ n1_ n2_ n3_; clear ho hb hg hat)))
               go_roundg k3
               case measure => have := HJ1.out; have := HK2.out; have := HK3.out; omega
               case rel => exact ⟨(y149), (wrap64 (x8_3 + 1)), (by first | rfl | (simp; done) | (simp [*]; done)), H', ⟨by have := HJ1.out; have := HK2.out; have := HK3.out; omega⟩, ⟨by (with_reducible repeat (first | apply Kd.R_alloc | apply Kd.R_drewN | apply Kd.R_drew)); exact HO151.out⟩, ⟨by (with_reducible repeat (first | apply bA | apply bB | apply bC)); exact BK144.out⟩, ⟨by (with_reducible repeat (first | apply bA | apply bB | apply bC)); exact BK145.out⟩, ⟨by repeat (first | (with_reducible first | exact HB.out | apply dA | apply dB | apply dC | refine dE ?_ ‹_›) | exact HB.out)⟩⟩
             · rw [if_neg c19] at H
               exact absurd H (by simp)
           · rw [if_neg c17] at H
             exact absurd H (by simp)
         · rw [if_neg c15] at H
           have c15b0 : decide (x8_3 < 4) = false := decide_eq_false c15; clear c15
           replace H := Option.bind_eq_some_iff.mp H
           obtain ⟨⟨t152, t153⟩, A210, H⟩ := H
           replace H : (some (t152, t153)) = some (r1, r2) := H
           have A21 := Aside0.mk A210; clear A210
           simp only [Option.some.injEq, Prod.mk.injEq] at H
           obtain ⟨rfl, rfl⟩ := H
           obtain ⟨Ao22, co22, eo22⟩ := Kd.R_slice HO_3.out
           subst eo22
           go_wp2_with (first | (go_at_call 81; (with_reducible refine (tumblerref01_make2.calls k3 z_ (fun k_ => some k_ = (.slice Ao22 x3_3.length co22 : Value).ownBlock) _ _ x3_3 t152 t153 _ ?side1 A21.out).mono ?_); (case side1 => exact Kd.R_V (Kd.R_tight rfl (Kd.R_types (Kd.R_types (HO_3.out) BK144.out (by decide)) BK145.out (by decide)))); rintro e w23 ⟨v154, rfl, ho0, hb⟩; have n0_ := am (Kd.R_below (by (with_reducible repeat (first | apply Kd.R_alloc | apply Kd.R_drewN | apply Kd.R_drew)); exact HO_3.out) hb); have n1_ := am (Kd.V_lower (Kd.V_mono (ok' := fun k_ => (w.heap.size ≤ k_) ∧ k_ ≠ gb144 ∧ k_ ≠ gb145) ho0 (fun k_ hk_ => ⟨Or.elim hk_ (fun hs_ => ((Kd.R_types (Kd.R_types (HO_3.out) BK144.out (by decide)) BK145.out (by decide)).1 k_ hs_.symm).1.1) (fun hn_ => (Nat.le_trans (below_size bz) hn_)), Or.elim hk_ (fun hs_ => ((Kd.R_types (Kd.R_types (HO_3.out) BK144.out (by decide)) BK145.out (by decide)).1 k_ hs_.symm).1.2) (fun hn_ => (Kd.freshB (g := gb144) (o := .cells #[.int .i64 a0_0, .int .u64 a0_1] 24 (0, 0)) (bq BK144) k_ hn_)), Or.elim hk_ (fun hs_ => ((Kd.R_types (Kd.R_types (HO_3.out) BK144.out (by decide)) BK145.out (by decide)).1 k_ hs_.symm).2) (fun hn_ => (Kd.freshB (g := gb145) (o := .cells #[.bool false, .slice none 0 0] 71 (0, 0)) (bq BK145) k_ hn_))⟩)) (below_size bz)); have n2_ := am (bb BK144 hb); have n3_ := am (bb BK145 hb); have n4_ := am (below_step bz hb); clear HO_3; clear BK144; clear BK145; clear HB; have HO_3 := n0_; have HO155 := n1_; have BK144 := n2_; have BK145 := n3_; have HB := n4_; clear n0_ n1_ n2_ n3_ n4_; (try clear hb); (try clear hb2); (try clear hk); (try clear hi); (try clear ho0); have hnb24 := NB145_144.out; have hnc24 := NB144_145.out; have hcz25_0 : w23.cell? ⟨gb145, 0, none⟩ = some (.bool false) := (blk_cell BK145.out 0).trans rfl; have hcz25_1 : w23.cell? ⟨gb145, 1, none⟩ = some (.slice none 0 0) := (blk_cell BK145.out 1).trans rfl; have hfz25_0 := blk_frozen BK145.out 0; have hfz25_1 := blk_frozen BK145.out 1; obtain ⟨Ao26, co26, eo26⟩ := Kd.V_slice HO155.out; subst eo26))
           repeat (go_quiet (first | (go_at_call 81; (with_reducible refine (tumblerref01_make2.calls k3 z_ (fun k_ => some k_ = (.slice Ao22 x3_3.length co22 : Value).ownBlock) _ _ x3_3 t152 t153 _ ?side1 A21.out).mono ?_); (case side1 => exact Kd.R_V (Kd.R_tight rfl (Kd.R_types (Kd.R_types (HO_3.out) BK144.out (by decide)) BK145.out (by decide)))); rintro e w23 ⟨v154, rfl, ho0, hb⟩; have n0_ := am (Kd.R_below (by (with_reducible repeat (first | apply Kd.R_alloc | apply Kd.R_drewN | apply Kd.R_drew)); exact HO_3.out) hb); have n1_ := am (Kd.V_lower (Kd.V_mono (ok' := fun k_ => (w.heap.size ≤ k_) ∧ k_ ≠ gb144 ∧ k_ ≠ gb145) ho0 (fun k_ hk_ => ⟨Or.elim hk_ (fun hs_ => ((Kd.R_types (Kd.R_types (HO_3.out) BK144.out (by decide)) BK145.out (by decide)).1 k_ hs_.symm).1.1) (fun hn_ => (Nat.le_trans (below_size bz) hn_)), Or.elim hk_ (fun hs_ => ((Kd.R_types (Kd.R_types (HO_3.out) BK144.out (by decide)) BK145.out (by decide)).1 k_ hs_.symm).1.2) (fun hn_ => (Kd.freshB (g := gb144) (o := .cells #[.int .i64 a0_0, .int .u64 a0_1] 24 (0, 0)) (bq BK144) k_ hn_)), Or.elim hk_ (fun hs_ => ((Kd.R_types (Kd.R_types (HO_3.out) BK144.out (by decide)) BK145.out (by decide)).1 k_ hs_.symm).2) (fun hn_ => (Kd.freshB (g := gb145) (o := .cells #[.bool false, .slice none 0 0] 71 (0, 0)) (bq BK145) k_ hn_))⟩)) (below_size bz)); have n2_ := am (bb BK144 hb); have n3_ := am (bb BK145 hb); have n4_ := am (below_step bz hb); clear HO_3; clear BK144; clear BK145; clear HB; have HO_3 := n0_; have HO155 := n1_; have BK144 := n2_; have BK145 := n3_; have HB := n4_; clear n0_ n1_ n2_ n3_ n4_; (try clear hb); (try clear hb2); (try clear hk); (try clear hi); (try clear ho0); have hnb24 := NB145_144.out; have hnc24 := NB144_145.out; have hcz25_0 : w23.cell? ⟨gb145, 0, none⟩ = some (.bool false) := (blk_cell BK145.out 0).trans rfl; have hcz25_1 : w23.cell? ⟨gb145, 1, none⟩ = some (.slice none 0 0) := (blk_cell BK145.out 1).trans rfl; have hfz25_0 := blk_frozen BK145.out 0; have hfz25_1 := blk_frozen BK145.out 1; obtain ⟨Ao26, co26, eo26⟩ := Kd.V_slice HO155.out; subst eo26)); try go_wp2_with (first | (go_at_call 81; (with_reducible refine (tumblerref01_make2.calls k3 z_ (fun k_ => some k_ = (.slice Ao22 x3_3.length co22 : Value).ownBlock) _ _ x3_3 t152 t153 _ ?side1 A21.out).mono ?_); (case side1 => exact Kd.R_V (Kd.R_tight rfl (Kd.R_types (Kd.R_types (HO_3.out) BK144.out (by decide)) BK145.out (by decide)))); rintro e w23 ⟨v154, rfl, ho0, hb⟩; have n0_ := am (Kd.R_below (by (with_reducible repeat (first | apply Kd.R_alloc | apply Kd.R_drewN | apply Kd.R_drew)); exact HO_3.out) hb); have n1_ := am (Kd.V_lower (Kd.V_mono (ok' := fun k_ => (w.heap.size ≤ k_) ∧ k_ ≠ gb144 ∧ k_ ≠ gb145) ho0 (fun k_ hk_ => ⟨Or.elim hk_ (fun hs_ => ((Kd.R_types (Kd.R_types (HO_3.out) BK144.out (by decide)) BK145.out (by decide)).1 k_ hs_.symm).1.1) (fun hn_ => (Nat.le_trans (below_size bz) hn_)), Or.elim hk_ (fun hs_ => ((Kd.R_types (Kd.R_types (HO_3.out) BK144.out (by decide)) BK145.out (by decide)).1 k_ hs_.symm).1.2) (fun hn_ => (Kd.freshB (g := gb144) (o := .cells #[.int .i64 a0_0, .int .u64 a0_1] 24 (0, 0)) (bq BK144) k_ hn_)), Or.elim hk_ (fun hs_ => ((Kd.R_types (Kd.R_types (HO_3.out) BK144.out (by decide)) BK145.out (by decide)).1 k_ hs_.symm).2) (fun hn_ => (Kd.freshB (g := gb145) (o := .cells #[.bool false, .slice none 0 0] 71 (0, 0)) (bq BK145) k_ hn_))⟩)) (below_size bz)); have n2_ := am (bb BK144 hb); have n3_ := am (bb BK145 hb); have n4_ := am (below_step bz hb); clear HO_3; clear BK144; clear BK145; clear HB; have HO_3 := n0_; have HO155 := n1_; have BK144 := n2_; have BK145 := n3_; have HB := n4_; clear n0_ n1_ n2_ n3_ n4_; (try clear hb); (try clear hb2); (try clear hk); (try clear hi); (try clear ho0); have hnb24 := NB145_144.out; have hnc24 := NB144_145.out; have hcz25_0 : w23.cell? ⟨gb145, 0, none⟩ = some (.bool false) := (blk_cell BK145.out 0).trans rfl; have hcz25_1 : w23.cell? ⟨gb145, 1, none⟩ = some (.slice none 0 0) := (blk_cell BK145.out 1).trans rfl; have hfz25_0 := blk_frozen BK145.out 0; have hfz25_1 := blk_frozen BK145.out 1; obtain ⟨Ao26, co26, eo26⟩ := Kd.V_slice HO155.out; subst eo26)))
           refine bodyPost_ret (results_cell_row rfl _ _ gb145 71 #[.bool t152, .slice Ao26 t153.length co26] (0, 0) _ rfl (by (with_reducible repeat (first | apply bA | apply bB | apply bC)); refine blk_put (cs := #[.bool t152, .slice none 0 0]) ?_ 1 _ rfl; (with_reducible repeat (first | apply bA | apply bB | apply bC)); refine blk_put (cs := #[.bool false, .slice none 0 0]) ?_ 0 _ rfl; (with_reducible repeat (first | apply bA | apply bB | apply bC)); exact BK145.out) Tryd.underlying71 rfl (by kernel_rfl)) rfl ?_
           exact ⟨_, by first | rfl | (simp [errW_none, errW_some] <;> rfl) | (simp [*, errW_none, errW_some] <;> rfl), by (with_reducible repeat (first | apply Kd.V_alloc | apply Kd.V_drewN | apply Kd.V_drew)); exact Kd.V_mono (Kd.V_far (p := ⟨gb145, 1, none⟩) (Kd.V_far (p := ⟨gb145, 0, none⟩) (Kd.V_mono HO155.out (fun k_ hk => (⟨hk, hk.2.2⟩ : _ ∧ k_ ≠ gb145))) (fun _ hk => hk.2) (.bool t152)) (fun _ hk => hk.2) (.slice Ao26 t153.length co26)) (fun _ hk => hk.1.1), by repeat (first | (with_reducible first | exact HB.out | apply dA | apply dB | apply dC | refine dE ?_ ‹_›) | exact HB.out)⟩

end Go.Proofs.YtcfhmbhlibhlnaaDoor.P
