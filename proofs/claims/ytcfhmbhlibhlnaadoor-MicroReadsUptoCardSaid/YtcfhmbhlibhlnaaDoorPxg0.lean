-- Printed by this session's own pp.py (wip/tool); small texts in one.
import Derived.Test.YtcfhmbhlibhlnaaDoorPx0
import Derived.Test.YtcfhmbhlibhlnaaDoorPxf65
import Derived.Test.YtcfhmbhlibhlnaaDoorPxf72
import Derived.Test.YtcfhmbhlibhlnaaDoorPxf39
namespace Go.Proofs.YtcfhmbhlibhlnaaDoor.P
open Go.RowKit Go.Proofs.YtcfhmbhlibhlnaaDoorW.PrintWords Go.Proofs.YtcfhmbhlibhlnaaDoorW.PrintLast Go.Proofs.YtcfhmbhlibhlnaaDoorW.PrintMore Go.Proofs.YtcfhmbhlibhlnaaDoor.Mine
section
attribute [local go_sem] ext71 ext79 eqA61 eqA62
attribute [local go_sem] max2_int min2_int max_two min_two max_three min_three max_four min_four   -- for this text's walks alone
set_option linter.unusedVariables false
set_option linter.unusedSimpArgs false

theorem eqA24 (d : Nat) (w : World) (x0 y0 : Int) (x1 y1 : Int) :
    (Op.equalIn (d + 2) 24 (.agg #[.int .i64 x0, .int .u64 x1]) (.agg #[.int .i64 y0, .int .u64 y1])).run Tryd.prog w = .ok (x0 == y0 && (x1 == y1)) w := by
  refine eqA_of Tryd.underlying24 (by kernel_rfl) ?_
  refine eqf_cons (by rfl) (by go_simp; rfl) (by go_simp; rfl) (by go_simp) ?_
  exact eqf_last (by rfl) (by go_simp; rfl) (by go_simp; rfl) (by go_simp)
end
section
attribute [local go_sem] ext71 ext79 eqA61 eqA62
attribute [local go_sem] max2_int min2_int max_two min_two max_three min_three max_four min_four   -- for this text's walks alone
set_option linter.unusedVariables false
set_option linter.unusedSimpArgs false

attribute [local go_sem high] eqA24
/-! ### wide_Cmp: function 30 -/
def wide_Cmp.f (a0_0 : Int) (a0_1 : Int) (a1_0 : Int) (a1_1 : Int) : Option (Int) := if (a0_0 == a1_0 && (a0_1 == a1_1)) = true then (some 0) else (if a0_0 < a1_0 then (some (-1)) else (if a0_0 = a1_0 then (if a0_1 < a1_1 then (some (-1)) else (some 1)) else (some 1)))
set_option maxHeartbeats 8000000 in
set_option maxRecDepth 100000 in
theorem wide_Cmp.calls (a0_0 : Int) (a0_1 : Int) (a1_0 : Int) (a1_1 : Int) (r : Int) (w : World) (h : wide_Cmp.f a0_0 a0_1 a1_0 a1_1 = some r) :
 Calls Tryd.prog 30 #[.agg #[.int .i64 a0_0, .int .u64 a0_1], .agg #[.int .i64 a1_0, .int .u64 a1_1]] w fun e w' => e = .returned (.int .i64 r) ∧ Below w.heap.size w w' := by
 have hu24 := Tryd.underlying24; have HB := am (Below.refl w.heap.size w); have H : (if (a0_0 == a1_0 && (a0_1 == a1_1)) = true then (some 0) else (if a0_0 < a1_0 then (some (-1)) else (if a0_0 = a1_0 then (if a0_1 < a1_1 then (some (-1)) else (some 1)) else (some 1)))) = some r := h; clear h
 by_cases c3 : (a0_0 == a1_0 && (a0_1 == a1_1)) = true
 · rw [if_pos c3] at H
   have c3b0 : (a0_0 == a1_0 && (a0_1 == a1_1)) = true := c3; (try (have c3b1 : decide (a0_0 = a1_0 && (a0_1 == a1_1)) = true := by simpa using c3)); (try (have c3b2 : (a0_0 == a1_0 && (a0_1 == a1_1)) = true := by simpa using c3)); clear c3
   obtain rfl := Option.some.inj H
   go_enter Tryd.func30, Tryd.ntmps30
   go_wp2_with (first | ((with_reducible refine gate_dst (N := 2) rfl ?_); refine box_event (by rfl) (N := 2) (by rfl) (cs := #[.int .i64 a0_0, .int .u64 a0_1]) (t := 24) (by go_simp <;> rfl) ?_; intro gb242 hg w4 hbox hb; have BK242 := am (hbox); have GW242 := gw w hg; replace HB := am (below_step bz hb); clear hb hbox hg) | ((with_reducible refine gate_dst (N := 3) rfl ?_); refine box_event (by rfl) (N := 3) (by rfl) (cs := #[.int .i64 a1_0, .int .u64 a1_1]) (t := 24) (by go_simp <;> rfl) ?_; intro gb243 hg w5 hbox hb; have BK243 := am (hbox); have GW243 := gw w hg; replace HB := am (below_step bz hb); have NB242_243 := nl BK242 hg; have NB243_242 := nr BK242 hg; replace BK242 := am (bb BK242 hb); clear hb hbox hg; have hnb6 := NB242_243.out; have hnc6 := NB243_242.out; have hcz7_0 : w5.cell? ⟨gb242, 0, none⟩ = some (.int .i64 a0_0) := bc BK242 0; have hcz7_1 : w5.cell? ⟨gb242, 1, none⟩ = some (.int .u64 a0_1) := bc BK242 1; have hfz7_0 := blk_frozen BK242.out 0; have hfz7_1 := blk_frozen BK242.out 1; have hcz8_0 : w5.cell? ⟨gb243, 0, none⟩ = some (.int .i64 a1_0) := bc BK243 0; have hcz8_1 : w5.cell? ⟨gb243, 1, none⟩ = some (.int .u64 a1_1) := bc BK243 1; have hfz8_0 := blk_frozen BK243.out 0; have hfz8_1 := blk_frozen BK243.out 1))
   go_ret
   exact ⟨rg, bz⟩
 · rw [if_neg c3] at H
   have c3b0 : (a0_0 == a1_0 && (a0_1 == a1_1)) = false := by simpa using c3
   (try (have c3b1 : decide (a0_0 = a1_0 && (a0_1 == a1_1)) = false := by simpa using c3)); (try (have c3b2 : (a0_0 == a1_0 && (a0_1 == a1_1)) = false := by simpa using c3)); (try (have c3b3 : ¬ (a0_0 = a1_0 && (a0_1 == a1_1)) := by simpa using c3)); clear c3
   by_cases c9 : a0_0 < a1_0
   · rw [if_pos c9] at H
     have c9b0 : decide (a0_0 < a1_0) = true := decide_eq_true c9; clear c9
     obtain rfl := Option.some.inj H
     go_enter Tryd.func30, Tryd.ntmps30
     go_wp2_with (first | ((with_reducible refine gate_dst (N := 2) rfl ?_); refine box_event (by rfl) (N := 2) (by rfl) (cs := #[.int .i64 a0_0, .int .u64 a0_1]) (t := 24) (by go_simp <;> rfl) ?_; intro gb242 hg w10 hbox hb; have BK242 := am (hbox); have GW242 := gw w hg; replace HB := am (below_step bz hb); clear hb hbox hg) | ((with_reducible refine gate_dst (N := 3) rfl ?_); refine box_event (by rfl) (N := 3) (by rfl) (cs := #[.int .i64 a1_0, .int .u64 a1_1]) (t := 24) (by go_simp <;> rfl) ?_; intro gb243 hg w11 hbox hb; have BK243 := am (hbox); have GW243 := gw w hg; replace HB := am (below_step bz hb); have NB242_243 := nl BK242 hg; have NB243_242 := nr BK242 hg; replace BK242 := am (bb BK242 hb); clear hb hbox hg; have hnb12 := NB242_243.out; have hnc12 := NB243_242.out; have hcz13_0 : w11.cell? ⟨gb242, 0, none⟩ = some (.int .i64 a0_0) := bc BK242 0; have hcz13_1 : w11.cell? ⟨gb242, 1, none⟩ = some (.int .u64 a0_1) := bc BK242 1; have hfz13_0 := blk_frozen BK242.out 0; have hfz13_1 := blk_frozen BK242.out 1; have hcz14_0 : w11.cell? ⟨gb243, 0, none⟩ = some (.int .i64 a1_0) := bc BK243 0; have hcz14_1 : w11.cell? ⟨gb243, 1, none⟩ = some (.int .u64 a1_1) := bc BK243 1; have hfz14_0 := blk_frozen BK243.out 0; have hfz14_1 := blk_frozen BK243.out 1))
     go_ret
     exact ⟨rg, bz⟩
   · rw [if_neg c9] at H
     have c9b0 : decide (a0_0 < a1_0) = false := decide_eq_false c9; clear c9
     by_cases c15 : a0_0 = a1_0
     · rw [if_pos c15] at H
       have c15b0 : (a0_0 == a1_0) = true := beq_iff_eq.mpr c15; have c15b1 : (a0_0 != a1_0) = false := bne_eq_false_iff_eq.mpr c15; clear c15; (try have c15z : (a0_1 == a1_1) = false := by have z_ := c3b0; rw [c15b0, Bool.true_and] at z_; exact z_)
       by_cases c16 : a0_1 < a1_1
       · rw [if_pos c16] at H
         have c16b0 : decide (a0_1 < a1_1) = true := decide_eq_true c16; clear c16
         obtain rfl := Option.some.inj H
         go_enter Tryd.func30, Tryd.ntmps30
         go_wp2_with (first | ((with_reducible refine gate_dst (N := 2) rfl ?_); refine box_event (by rfl) (N := 2) (by rfl) (cs := #[.int .i64 a0_0, .int .u64 a0_1]) (t := 24) (by go_simp <;> rfl) ?_; intro gb242 hg w17 hbox hb; have BK242 := am (hbox); have GW242 := gw w hg; replace HB := am (below_step bz hb); clear hb hbox hg) | ((with_reducible refine gate_dst (N := 3) rfl ?_); refine box_event (by rfl) (N := 3) (by rfl) (cs := #[.int .i64 a1_0, .int .u64 a1_1]) (t := 24) (by go_simp <;> rfl) ?_; intro gb243 hg w18 hbox hb; have BK243 := am (hbox); have GW243 := gw w hg; replace HB := am (below_step bz hb); have NB242_243 := nl BK242 hg; have NB243_242 := nr BK242 hg; replace BK242 := am (bb BK242 hb); clear hb hbox hg; have hnb19 := NB242_243.out; have hnc19 := NB243_242.out; have hcz20_0 : w18.cell? ⟨gb242, 0, none⟩ = some (.int .i64 a0_0) := bc BK242 0; have hcz20_1 : w18.cell? ⟨gb242, 1, none⟩ = some (.int .u64 a0_1) := bc BK242 1; have hfz20_0 := blk_frozen BK242.out 0; have hfz20_1 := blk_frozen BK242.out 1; have hcz21_0 : w18.cell? ⟨gb243, 0, none⟩ = some (.int .i64 a1_0) := bc BK243 0; have hcz21_1 : w18.cell? ⟨gb243, 1, none⟩ = some (.int .u64 a1_1) := bc BK243 1; have hfz21_0 := blk_frozen BK243.out 0; have hfz21_1 := blk_frozen BK243.out 1))
         go_ret
         exact ⟨rg, bz⟩
       · rw [if_neg c16] at H
         have c16b0 : decide (a0_1 < a1_1) = false := decide_eq_false c16; clear c16
         obtain rfl := Option.some.inj H
         go_enter Tryd.func30, Tryd.ntmps30
         go_wp2_with (first | ((with_reducible refine gate_dst (N := 2) rfl ?_); refine box_event (by rfl) (N := 2) (by rfl) (cs := #[.int .i64 a0_0, .int .u64 a0_1]) (t := 24) (by go_simp <;> rfl) ?_; intro gb242 hg w22 hbox hb; have BK242 := am (hbox); have GW242 := gw w hg; replace HB := am (below_step bz hb); clear hb hbox hg) | ((with_reducible refine gate_dst (N := 3) rfl ?_); refine box_event (by rfl) (N := 3) (by rfl) (cs := #[.int .i64 a1_0, .int .u64 a1_1]) (t := 24) (by go_simp <;> rfl) ?_; intro gb243 hg w23 hbox hb; have BK243 := am (hbox); have GW243 := gw w hg; replace HB := am (below_step bz hb); have NB242_243 := nl BK242 hg; have NB243_242 := nr BK242 hg; replace BK242 := am (bb BK242 hb); clear hb hbox hg; have hnb24 := NB242_243.out; have hnc24 := NB243_242.out; have hcz25_0 : w23.cell? ⟨gb242, 0, none⟩ = some (.int .i64 a0_0) := bc BK242 0; have hcz25_1 : w23.cell? ⟨gb242, 1, none⟩ = some (.int .u64 a0_1) := bc BK242 1; have hfz25_0 := blk_frozen BK242.out 0; have hfz25_1 := blk_frozen BK242.out 1; have hcz26_0 : w23.cell? ⟨gb243, 0, none⟩ = some (.int .i64 a1_0) := bc BK243 0; have hcz26_1 : w23.cell? ⟨gb243, 1, none⟩ = some (.int .u64 a1_1) := bc BK243 1; have hfz26_0 := blk_frozen BK243.out 0; have hfz26_1 := blk_frozen BK243.out 1))
         go_ret
         exact ⟨rg, bz⟩
     · rw [if_neg c15] at H
       have c15b0 : (a0_0 == a1_0) = false := beq_eq_false_iff_ne.mpr c15; have c15b1 : (a0_0 != a1_0) = true := bne_iff_ne.mpr c15
       obtain rfl := Option.some.inj H
       go_enter Tryd.func30, Tryd.ntmps30
       go_wp2_with (first | ((with_reducible refine gate_dst (N := 2) rfl ?_); refine box_event (by rfl) (N := 2) (by rfl) (cs := #[.int .i64 a0_0, .int .u64 a0_1]) (t := 24) (by go_simp <;> rfl) ?_; intro gb242 hg w27 hbox hb; have BK242 := am (hbox); have GW242 := gw w hg; replace HB := am (below_step bz hb); clear hb hbox hg) | ((with_reducible refine gate_dst (N := 3) rfl ?_); refine box_event (by rfl) (N := 3) (by rfl) (cs := #[.int .i64 a1_0, .int .u64 a1_1]) (t := 24) (by go_simp <;> rfl) ?_; intro gb243 hg w28 hbox hb; have BK243 := am (hbox); have GW243 := gw w hg; replace HB := am (below_step bz hb); have NB242_243 := nl BK242 hg; have NB243_242 := nr BK242 hg; replace BK242 := am (bb BK242 hb); clear hb hbox hg; have hnb29 := NB242_243.out; have hnc29 := NB243_242.out; have hcz30_0 : w28.cell? ⟨gb242, 0, none⟩ = some (.int .i64 a0_0) := bc BK242 0; have hcz30_1 : w28.cell? ⟨gb242, 1, none⟩ = some (.int .u64 a0_1) := bc BK242 1; have hfz30_0 := blk_frozen BK242.out 0; have hfz30_1 := blk_frozen BK242.out 1; have hcz31_0 : w28.cell? ⟨gb243, 0, none⟩ = some (.int .i64 a1_0) := bc BK243 0; have hcz31_1 : w28.cell? ⟨gb243, 1, none⟩ = some (.int .u64 a1_1) := bc BK243 1; have hfz31_0 := blk_frozen BK243.out 0; have hfz31_1 := blk_frozen BK243.out 1))
       go_ret
       exact ⟨rg, bz⟩
end
section
attribute [local go_sem] ext71 ext79 eqA61 eqA62
attribute [local go_sem] max2_int min2_int max_two min_two max_three min_three max_four min_four   -- for this text's walks alone
set_option linter.unusedVariables false
set_option linter.unusedSimpArgs false

/-! ### wide_amount: function 64 -/
def wide_amount.f (a0_0 : Int) (a0_1 : Int) : Option (Int × Int) := if a0_0 ≥ 0 then (some (a0_1, IntKind.u64.wrap (a0_0))) else (if (subHi 0 a0_1 0) ≤ 1 then (some (subLo 0 a0_1 0, subLo 0 (IntKind.u64.wrap (a0_0)) (subHi 0 a0_1 0))) else (none))
set_option maxHeartbeats 8000000 in
set_option maxRecDepth 100000 in
theorem wide_amount.calls (a0_0 : Int) (a0_1 : Int) (r1 : Int) (r2 : Int) (w : World) (h : wide_amount.f a0_0 a0_1 = some (r1, r2)) :
 Calls Tryd.prog 64 #[.agg #[.int .i64 a0_0, .int .u64 a0_1]] w fun e w' => e = .returned (.agg #[.int .u64 r1, .int .u64 r2]) ∧ Below w.heap.size w w' := by
 have hu24 := Tryd.underlying24; have hu62 := Tryd.underlying62; have HB := am (Below.refl w.heap.size w); have H : (if a0_0 ≥ 0 then (some (a0_1, IntKind.u64.wrap (a0_0))) else (if (subHi 0 a0_1 0) ≤ 1 then (some (subLo 0 a0_1 0, subLo 0 (IntKind.u64.wrap (a0_0)) (subHi 0 a0_1 0))) else (none))) = some (r1, r2) := h; clear h
 by_cases c2 : a0_0 ≥ 0
 · rw [if_pos c2] at H
   have c2b0 : decide (0 ≤ a0_0) = true := decide_eq_true c2; clear c2
   simp only [Option.some.injEq, Prod.mk.injEq] at H
   obtain ⟨rfl, rfl⟩ := H
   go_enter Tryd.func64, Tryd.ntmps64
   go_wp2_with (first | ((with_reducible refine gate_dst (N := 1) rfl ?_); refine box_event (by rfl) (N := 1) (by rfl) (cs := #[.int .i64 a0_0, .int .u64 a0_1]) (t := 24) (by go_simp <;> rfl) ?_; intro gb101 hg w3 hbox hb; have BK101 := am (hbox); have GW101 := gw w hg; replace HB := am (below_step bz hb); clear hb hbox hg) | ((with_reducible refine gate_dst (N := 2) rfl ?_); refine box_event (by rfl) (N := 2) (by rfl) (cs := #[.int .u64 0, .int .u64 0]) (t := 62) (by go_simp <;> rfl) ?_; intro gb102 hg w4 hbox hb; have BK102 := am (hbox); have GW102 := gw w hg; replace HB := am (below_step bz hb); have NB101_102 := nl BK101 hg; have NB102_101 := nr BK101 hg; replace BK101 := am (bb BK101 hb); clear hb hbox hg; have hnb5 := NB101_102.out; have hnc5 := NB102_101.out; have hcz6_0 : w4.cell? ⟨gb101, 0, none⟩ = some (.int .i64 a0_0) := bc BK101 0; have hcz6_1 : w4.cell? ⟨gb101, 1, none⟩ = some (.int .u64 a0_1) := bc BK101 1; have hfz6_0 := blk_frozen BK101.out 0; have hfz6_1 := blk_frozen BK101.out 1; have hcz7_0 : w4.cell? ⟨gb102, 0, none⟩ = some (.int .u64 0) := bc BK102 0; have hcz7_1 : w4.cell? ⟨gb102, 1, none⟩ = some (.int .u64 0) := bc BK102 1; have hfz7_0 := blk_frozen BK102.out 0; have hfz7_1 := blk_frozen BK102.out 1))
   refine bodyPost_ret (results_cell_row rfl _ _ gb102 62 #[.int .u64 a0_1, .int .u64 (IntKind.u64.wrap (a0_0))] (0, 0) _ rfl (blk_put (blk_put BK102.out 0 _ rfl) 1 _ rfl) Tryd.underlying62 rfl (by kernel_rfl)) rfl ?_
   exact ⟨rg, bz⟩
 · rw [if_neg c2] at H
   have c2b0 : decide (0 ≤ a0_0) = false := decide_eq_false c2; clear c2
   by_cases c8 : (subHi 0 a0_1 0) ≤ 1
   · rw [if_pos c8] at H
     have c8b0 := eq_true c8; have c8b1 : decide ((subHi 0 a0_1 0) ≤ 1) = true := decide_eq_true c8; clear c8
     simp only [Option.some.injEq, Prod.mk.injEq] at H
     obtain ⟨rfl, rfl⟩ := H
     go_enter Tryd.func64, Tryd.ntmps64
     go_wp2_with (first | ((with_reducible refine gate_dst (N := 1) rfl ?_); refine box_event (by rfl) (N := 1) (by rfl) (cs := #[.int .i64 a0_0, .int .u64 a0_1]) (t := 24) (by go_simp <;> rfl) ?_; intro gb101 hg w9 hbox hb; have BK101 := am (hbox); have GW101 := gw w hg; replace HB := am (below_step bz hb); clear hb hbox hg) | ((with_reducible refine gate_dst (N := 2) rfl ?_); refine box_event (by rfl) (N := 2) (by rfl) (cs := #[.int .u64 0, .int .u64 0]) (t := 62) (by go_simp <;> rfl) ?_; intro gb102 hg w10 hbox hb; have BK102 := am (hbox); have GW102 := gw w hg; replace HB := am (below_step bz hb); have NB101_102 := nl BK101 hg; have NB102_101 := nr BK101 hg; replace BK101 := am (bb BK101 hb); clear hb hbox hg; have hnb11 := NB101_102.out; have hnc11 := NB102_101.out; have hcz12_0 : w10.cell? ⟨gb101, 0, none⟩ = some (.int .i64 a0_0) := bc BK101 0; have hcz12_1 : w10.cell? ⟨gb101, 1, none⟩ = some (.int .u64 a0_1) := bc BK101 1; have hfz12_0 := blk_frozen BK101.out 0; have hfz12_1 := blk_frozen BK101.out 1; have hcz13_0 : w10.cell? ⟨gb102, 0, none⟩ = some (.int .u64 0) := bc BK102 0; have hcz13_1 : w10.cell? ⟨gb102, 1, none⟩ = some (.int .u64 0) := bc BK102 1; have hfz13_0 := blk_frozen BK102.out 0; have hfz13_1 := blk_frozen BK102.out 1))
     refine bodyPost_ret (results_cell_row rfl _ _ gb102 62 #[.int .u64 (subLo 0 a0_1 0), .int .u64 (subLo 0 (IntKind.u64.wrap (a0_0)) (subHi 0 a0_1 0))] (0, 0) _ rfl (blk_put (blk_put BK102.out 0 _ rfl) 1 _ rfl) Tryd.underlying62 rfl (by kernel_rfl)) rfl ?_
     exact ⟨rg, bz⟩
   · rw [if_neg c8] at H
     exact absurd H (by simp)
end
section
attribute [local go_sem] ext71 ext79 eqA61 eqA62
attribute [local go_sem] max2_int min2_int max_two min_two max_three min_three max_four min_four   -- for this text's walks alone
set_option linter.unusedVariables false
set_option linter.unusedSimpArgs false

attribute [local go_sem high] eqA24
/-! ### wide_Quo: function 32 -/
def wide_Quo.f (k : Nat) (a0_0 : Int) (a0_1 : Int) (a1_0 : Int) (a1_1 : Int) : Option (Int × Int × Int × Int × Int) := if (a1_0 == 0 && (a1_1 == 0)) = true then (some (0, 0, 0, 0, 11)) else ((wide_amount.f a0_0 a0_1).bind fun bt294 => ((wide_amount.f a1_0 a1_1).bind fun bt296 => ((wide_divided.f k bt294.1 bt294.2 bt296.1 bt296.2).bind fun bt298 => ((wide_signed.f k bt298.1 bt298.2.1 ((decide (a0_0 < 0)) != (decide (a1_0 < 0)))).bind fun bt304 => (if bt304.2.2 = 0 then ((wide_signed.f k bt298.2.2.1 bt298.2.2.2 (decide (a0_0 < 0))).bind fun bt308 => (some (bt304.1, bt304.2.1, bt308.1, bt308.2.1, 0))) else (some (0, 0, 0, 0, bt304.2.2)))))))
theorem wide_Quo.mono : ∀ a0 a1 a2 a3 k, LeO (wide_Quo.f k a0 a1 a2 a3) (wide_Quo.f (k + 1) a0 a1 a2 a3) := by
 intro a0 a1 a2 a3 k
 unfold wide_Quo.f
 repeat' first
  | (with_reducible exact wide_divided.mono _ _ _ _ _)
  | (with_reducible exact wide_signed.mono _ _ _ _)
  | (with_reducible exact LeO.refl _)
  | (with_reducible exact LeO.none _)
  | (with_reducible refine LeO.ite ?_ ?_)
  | (with_reducible refine LeO.bind ?_ (fun _ => ?_))
  | exact wide_divided.mono _ _ _ _ _
  | exact wide_signed.mono _ _ _ _
  | exact LeO.none _
  | refine LeO.ite ?_ ?_
  | refine LeO.bind ?_ (fun _ => ?_)
def wide_Quo.T3 : Bool × List (List Nat × List Nat) := (true, [([], []), ([0], [0]), ([], []), ([2, 1], [2]), ([1, 3, 3], [1, 3]), ([4], [4]), ([5], [5]), ([5], [5]), ([], []), ([], []), ([8, 6, 4, 0, 1, 2, 3, 4, 5, 6, 8, 9], [6, 8]), ([9, 7, 10, 0, 1, 2, 3, 4, 5, 6, 7, 8, 9, 10], [7, 9])])
def wide_Quo.B3 : List Nat := [0, 1, 0, 7, 15, 31, 63, 63, 0, 0, 895, 2047]
theorem wide_Quo.tab3 : rtab .any (opsOf Tryd.f32 3) = wide_Quo.T3 := by kernel_rfl
theorem wide_Quo.bits3 : waitsOk wide_Quo.T3.2 wide_Quo.B3 = true := by kernel_rfl
end
section
attribute [local go_sem] ext71 ext79 eqA61 eqA62
attribute [local go_sem] max2_int min2_int max_two min_two max_three min_three max_four min_four   -- for this text's walks alone
set_option linter.unusedVariables false
set_option linter.unusedSimpArgs false

/-! ### wide_Of: function 47 -/
def wide_Of.f (a0 : Int) : Option (Int × Int) := some (a0 / 9223372036854775808, IntKind.u64.wrap (a0))
set_option maxHeartbeats 8000000 in
set_option maxRecDepth 100000 in
theorem wide_Of.calls (a0 : Int) (r1 : Int) (r2 : Int) (w : World) (h : wide_Of.f a0 = some (r1, r2)) :
 Calls Tryd.prog 47 #[.int .i64 a0] w fun e w' => e = .returned (.agg #[.int .i64 r1, .int .u64 r2]) ∧ Below w.heap.size w w' := by
 have hu24 := Tryd.underlying24; have HB := am (Below.refl w.heap.size w); have H : (some (a0 / 9223372036854775808, IntKind.u64.wrap (a0))) = some (r1, r2) := h; clear h
 simp only [Option.some.injEq, Prod.mk.injEq] at H
 obtain ⟨rfl, rfl⟩ := H
 go_enter Tryd.func47, Tryd.ntmps47
 go_wp2_with (first | ((with_reducible refine gate_dst (N := 2) rfl ?_); refine box_event (by rfl) (N := 2) (by rfl) (cs := #[.int .i64 0, .int .u64 0]) (t := 24) (by go_simp <;> rfl) ?_; intro gb241 hg w2 hbox hb; have BK241 := am (hbox); have GW241 := gw w hg; replace HB := am (below_step bz hb); clear hb hbox hg; have hcz3_0 : w2.cell? ⟨gb241, 0, none⟩ = some (.int .i64 0) := bc BK241 0; have hcz3_1 : w2.cell? ⟨gb241, 1, none⟩ = some (.int .u64 0) := bc BK241 1; have hfz3_0 := blk_frozen BK241.out 0; have hfz3_1 := blk_frozen BK241.out 1))
 refine bodyPost_ret (results_cell_row rfl _ _ gb241 24 #[.int .i64 (a0 / 9223372036854775808), .int .u64 (IntKind.u64.wrap (a0))] (0, 0) _ rfl (blk_put (blk_put BK241.out 0 _ rfl) 1 _ rfl) Tryd.underlying24 rfl (by kernel_rfl)) rfl ?_
 exact ⟨rg, bz⟩
end
section
attribute [local go_sem] ext71 ext79 eqA61 eqA62
attribute [local go_sem] max2_int min2_int max_two min_two max_three min_three max_four min_four   -- for this text's walks alone
set_option linter.unusedVariables false
set_option linter.unusedSimpArgs false

attribute [local go_sem high] eqA24
/-! ### wide_Small: function 41 -/
def wide_Small.f (a0_0 : Int) (a0_1 : Int) : Option (Int × Bool) := (wide_Of.f (wrap64 (a0_1))).bind fun bt704 => (if (!(bt704.1 == a0_0) || (!(bt704.2 == a0_1))) = true then (some (0, false)) else (some (wrap64 (a0_1), true)))
set_option maxHeartbeats 8000000 in
set_option maxRecDepth 100000 in
theorem wide_Small.calls (a0_0 : Int) (a0_1 : Int) (r1 : Int) (r2 : Bool) (w : World) (h : wide_Small.f a0_0 a0_1 = some (r1, r2)) :
 Calls Tryd.prog 41 #[.agg #[.int .i64 a0_0, .int .u64 a0_1]] w fun e w' => e = .returned (.tuple #[.int .i64 r1, .bool r2]) ∧ Below w.heap.size w w' := by
 have hu24 := Tryd.underlying24; have HB := am (Below.refl w.heap.size w); have H : ((wide_Of.f (wrap64 (a0_1))).bind fun bt704 => (if (!(bt704.1 == a0_0) || (!(bt704.2 == a0_1))) = true then (some (0, false)) else (some (wrap64 (a0_1), true)))) = some (r1, r2) := h; clear h
 replace H := Option.bind_eq_some_iff.mp H
 obtain ⟨⟨t704, t705⟩, A20, H⟩ := H
 replace H : (if (!(t704 == a0_0) || (!(t705 == a0_1))) = true then (some (0, false)) else (some (wrap64 (a0_1), true))) = some (r1, r2) := H
 have A2 := Aside0.mk A20; clear A20
 by_cases c3 : (!(t704 == a0_0) || (!(t705 == a0_1))) = true
 · rw [if_pos c3] at H
   have c3b0 : (!(t704 == a0_0) || (!(t705 == a0_1))) = true := c3; clear c3
   simp only [Option.some.injEq, Prod.mk.injEq] at H
   obtain ⟨rfl, rfl⟩ := H
   go_enter Tryd.func41, Tryd.ntmps41
   try go_wp2_with (first | ((with_reducible refine gate_dst (N := 1) rfl ?_); refine box_event (by rfl) (N := 1) (by rfl) (cs := #[.int .i64 a0_0, .int .u64 a0_1]) (t := 24) (by go_simp <;> rfl) ?_; intro gb703 hg w4 hbox hb; have BK703 := am (hbox); have GW703 := gw w hg; replace HB := am (below_step bz hb); clear hb hbox hg; have hcz5_0 : w4.cell? ⟨gb703, 0, none⟩ = some (.int .i64 a0_0) := bc BK703 0; have hcz5_1 : w4.cell? ⟨gb703, 1, none⟩ = some (.int .u64 a0_1) := bc BK703 1; have hfz5_0 := blk_frozen BK703.out 0; have hfz5_1 := blk_frozen BK703.out 1))
   replace BK703 := am (blk_drew BK703.out); replace HB := am (below_drew1 HB.out)
   refine start_ (n := 4) (S := fun w' => w'.cell? ⟨gb703, 0, none⟩ = some (.int .i64 a0_0) ∧ w'.cell? ⟨gb703, 1, none⟩ = some (.int .u64 a0_1)) (ds := []) #[false, false, false, false] (by kernel_rfl) rfl rfl ⟨bc BK703 0, bc BK703 1⟩ (fun hHeld => ?_)
   generalize w4.drew = w6 at BK703 HB hHeld ⊢
   refine pure_ (i := 0) (N := some 8) (v := ?_) (a' := ?_) #[true, false, false, false] rfl rfl (by kernel_rfl) (fun _ _ _ h => h) (Or.inl ⟨by rfl, ?_⟩) ?_ ?_
   rotate_left; · intro w'; go_simp; with_reducible rfl
   rotate_left; · simp only [Act.put, List.setIfInBounds_toArray, List.set_cons_zero, List.set_cons_succ, i64_w, i32_w]; rfl
   refine take_ (i := 2) (N := some 10) (v := ?_) (a' := ?_) #[true, false, true, false] rfl rfl (by kernel_rfl) (fun _ _ _ h => h) (Or.inl ⟨by rfl, ?_⟩) hHeld ?_ ?_
   rotate_left
   · rintro w' ⟨s0, s1⟩
     go_simp
     with_reducible rfl
   rotate_left
   · simp only [Act.put, List.setIfInBounds_toArray, List.set_cons_zero, List.set_cons_succ, i64_w, i32_w]
     rfl
   refine one_ (i := 1) (N := some 9) #[true, true, true, false] rfl rfl (by kernel_rfl) (by decide) (fun K hK => ?_)
   refine goes_ Tryd.func47 (by kernel_rfl) rfl #[.int .i64 (wrap64 (a0_1))] (by rfl) rfl rfl rf ?_
   with_reducible refine (wide_Of.calls (wrap64 (a0_1)) t704 t705 _ A2.out).mono ?_
   rintro e w7 ⟨rfl, hb⟩; refine ⟨_, rfl, ?_⟩; replace BK703 := am (bb BK703 hb); replace HB := am (below_step bz hb); (try clear hb); (try clear hb2); (try clear hk); (try clear hi)
   refine hK.out _ _ ⟨bc BK703 0, bc BK703 1⟩ (fun hHeld => ?_)
   clear hK K
   refine norm_ (a' := ?_) ?_ ?_
   rotate_left
   · show Act.put _ (some 9) _ = _
     simp only [Act.put, List.setIfInBounds_toArray, List.set_cons_zero, List.set_cons_succ, i64_w, i32_w]
     rfl
   refine pure_ (i := 3) (N := some 11) (v := ?_) (a' := ?_) #[true, true, true, true] rfl rfl (by kernel_rfl) (fun _ _ _ h => h) (Or.inl ⟨by rfl, ?_⟩) ?_ ?_
   rotate_left; · intro w'; go_simp; with_reducible rfl
   rotate_left; · simp only [Act.put, List.setIfInBounds_toArray, List.set_cons_zero, List.set_cons_succ, i64_w, i32_w]; rfl
   refine done_ (by kernel_rfl) ?_
   try go_wp2
   go_ret2
   exact ⟨rg, bz⟩
 · rw [if_neg c3] at H
   have c3b0 : (!(t704 == a0_0) || (!(t705 == a0_1))) = false := by simpa using c3
   clear c3
   simp only [Option.some.injEq, Prod.mk.injEq] at H
   obtain ⟨rfl, rfl⟩ := H
   go_enter Tryd.func41, Tryd.ntmps41
   try go_wp2_with (first | ((with_reducible refine gate_dst (N := 1) rfl ?_); refine box_event (by rfl) (N := 1) (by rfl) (cs := #[.int .i64 a0_0, .int .u64 a0_1]) (t := 24) (by go_simp <;> rfl) ?_; intro gb703 hg w8 hbox hb; have BK703 := am (hbox); have GW703 := gw w hg; replace HB := am (below_step bz hb); clear hb hbox hg; have hcz9_0 : w8.cell? ⟨gb703, 0, none⟩ = some (.int .i64 a0_0) := bc BK703 0; have hcz9_1 : w8.cell? ⟨gb703, 1, none⟩ = some (.int .u64 a0_1) := bc BK703 1; have hfz9_0 := blk_frozen BK703.out 0; have hfz9_1 := blk_frozen BK703.out 1))
   replace BK703 := am (blk_drew BK703.out); replace HB := am (below_drew1 HB.out)
   refine start_ (n := 4) (S := fun w' => w'.cell? ⟨gb703, 0, none⟩ = some (.int .i64 a0_0) ∧ w'.cell? ⟨gb703, 1, none⟩ = some (.int .u64 a0_1)) (ds := []) #[false, false, false, false] (by kernel_rfl) rfl rfl ⟨bc BK703 0, bc BK703 1⟩ (fun hHeld => ?_)
   generalize w8.drew = w10 at BK703 HB hHeld ⊢
   refine pure_ (i := 0) (N := some 8) (v := ?_) (a' := ?_) #[true, false, false, false] rfl rfl (by kernel_rfl) (fun _ _ _ h => h) (Or.inl ⟨by rfl, ?_⟩) ?_ ?_
   rotate_left; · intro w'; go_simp; with_reducible rfl
   rotate_left; · simp only [Act.put, List.setIfInBounds_toArray, List.set_cons_zero, List.set_cons_succ, i64_w, i32_w]; rfl
   refine take_ (i := 2) (N := some 10) (v := ?_) (a' := ?_) #[true, false, true, false] rfl rfl (by kernel_rfl) (fun _ _ _ h => h) (Or.inl ⟨by rfl, ?_⟩) hHeld ?_ ?_
   rotate_left
   · rintro w' ⟨s0, s1⟩
     go_simp
     with_reducible rfl
   rotate_left
   · simp only [Act.put, List.setIfInBounds_toArray, List.set_cons_zero, List.set_cons_succ, i64_w, i32_w]
     rfl
   refine one_ (i := 1) (N := some 9) #[true, true, true, false] rfl rfl (by kernel_rfl) (by decide) (fun K hK => ?_)
   refine goes_ Tryd.func47 (by kernel_rfl) rfl #[.int .i64 (wrap64 (a0_1))] (by rfl) rfl rfl rf ?_
   with_reducible refine (wide_Of.calls (wrap64 (a0_1)) t704 t705 _ A2.out).mono ?_
   rintro e w11 ⟨rfl, hb⟩; refine ⟨_, rfl, ?_⟩; replace BK703 := am (bb BK703 hb); replace HB := am (below_step bz hb); (try clear hb); (try clear hb2); (try clear hk); (try clear hi)
   refine hK.out _ _ ⟨bc BK703 0, bc BK703 1⟩ (fun hHeld => ?_)
   clear hK K
   refine norm_ (a' := ?_) ?_ ?_
   rotate_left
   · show Act.put _ (some 9) _ = _
     simp only [Act.put, List.setIfInBounds_toArray, List.set_cons_zero, List.set_cons_succ, i64_w, i32_w]
     rfl
   refine pure_ (i := 3) (N := some 11) (v := ?_) (a' := ?_) #[true, true, true, true] rfl rfl (by kernel_rfl) (fun _ _ _ h => h) (Or.inl ⟨by rfl, ?_⟩) ?_ ?_
   rotate_left; · intro w'; go_simp; with_reducible rfl
   rotate_left; · simp only [Act.put, List.setIfInBounds_toArray, List.set_cons_zero, List.set_cons_succ, i64_w, i32_w]; rfl
   refine done_ (by kernel_rfl) ?_
   try go_wp2
   go_ret2
   exact ⟨rg, bz⟩
end
section
attribute [local go_sem] ext71 ext79 eqA61 eqA62
attribute [local go_sem] max2_int min2_int max_two min_two max_three min_three max_four min_four   -- for this text's walks alone
set_option linter.unusedVariables false
set_option linter.unusedSimpArgs false

/-! ### wide_Neg: function 43 -/
def wide_Neg.f (a0_0 : Int) (a0_1 : Int) : Option (Int × Int × Int) := (wide_Sub.f 0 0 a0_0 a0_1).bind fun bt712 => (some (bt712.1, bt712.2.1, bt712.2.2))
set_option maxHeartbeats 8000000 in
set_option maxRecDepth 100000 in
theorem wide_Neg.calls (a0_0 : Int) (a0_1 : Int) (r1 : Int) (r2 : Int) (r3 : Int) (w : World) (h : wide_Neg.f a0_0 a0_1 = some (r1, r2, r3)) :
 Calls Tryd.prog 43 #[.agg #[.int .i64 a0_0, .int .u64 a0_1]] w fun e w' => e = .returned (.tuple #[.agg #[.int .i64 r1, .int .u64 r2], .int .i64 r3]) ∧ Below w.heap.size w w' := by
 have hu24 := Tryd.underlying24; have HB := am (Below.refl w.heap.size w); have H : ((wide_Sub.f 0 0 a0_0 a0_1).bind fun bt712 => (some (bt712.1, bt712.2.1, bt712.2.2))) = some (r1, r2, r3) := h; clear h
 replace H := Option.bind_eq_some_iff.mp H
 obtain ⟨⟨t712, t713, t714⟩, A20, H⟩ := H
 replace H : (some (t712, t713, t714)) = some (r1, r2, r3) := H
 have A2 := Aside0.mk A20; clear A20
 simp only [Option.some.injEq, Prod.mk.injEq] at H
 obtain ⟨rfl, rfl, rfl⟩ := H
 go_enter Tryd.func43, Tryd.ntmps43
 go_wp2_with (first | ((with_reducible refine gate_dst (N := 1) rfl ?_); refine box_event (by rfl) (N := 1) (by rfl) (cs := #[.int .i64 a0_0, .int .u64 a0_1]) (t := 24) (by go_simp <;> rfl) ?_; intro gb710 hg w3 hbox hb; have BK710 := am (hbox); have GW710 := gw w hg; replace HB := am (below_step bz hb); clear hb hbox hg) | ((with_reducible refine gate_dst (N := 2) rfl ?_); refine box_event (by rfl) (N := 2) (by rfl) (cs := #[.int .i64 0, .int .u64 0]) (t := 24) (by go_simp <;> rfl) ?_; intro gb711 hg w4 hbox hb; have BK711 := am (hbox); have GW711 := gw w hg; replace HB := am (below_step bz hb); have NB710_711 := nl BK710 hg; have NB711_710 := nr BK710 hg; replace BK710 := am (bb BK710 hb); clear hb hbox hg; have hnb5 := NB710_711.out; have hnc5 := NB711_710.out; have hcz6_0 : w4.cell? ⟨gb710, 0, none⟩ = some (.int .i64 a0_0) := bc BK710 0; have hcz6_1 : w4.cell? ⟨gb710, 1, none⟩ = some (.int .u64 a0_1) := bc BK710 1; have hfz6_0 := blk_frozen BK710.out 0; have hfz6_1 := blk_frozen BK710.out 1) | ((with_reducible refine gate_callee (f := 39) rfl ?_); refine goesL_ (some 6) rfl rfl Tryd.func39 (by kernel_rfl) rfl #[.agg #[.int .i64 0, .int .u64 0], .agg #[.int .i64 a0_0, .int .u64 a0_1]] rfl rf ?_; (with_reducible refine (wide_Sub.calls 0 0 a0_0 a0_1 t712 t713 t714 _ A2.out).mono ?_); rintro e w7 ⟨rfl, hb⟩; refine ⟨_, rfl, ?_⟩; replace BK710 := am (bb BK710 hb); replace BK711 := am (bb BK711 hb); replace HB := am (below_step bz hb); (try clear hb); (try clear hb2); (try clear hk); (try clear hi); have hcz8_0 : w7.cell? ⟨gb711, 0, none⟩ = some (.int .i64 0) := bc BK711 0; have hcz8_1 : w7.cell? ⟨gb711, 1, none⟩ = some (.int .u64 0) := bc BK711 1; have hfz8_0 := blk_frozen BK711.out 0; have hfz8_1 := blk_frozen BK711.out 1))
 refine bodyPost_ret (results_ct rfl _ _ gb711 24 #[.int .i64 t712, .int .u64 t713] (0, 0) _ rfl (blk_put (blk_put BK711.out 0 _ rfl) 1 _ rfl) Tryd.underlying24 rfl (by kernel_rfl)) rfl ?_
 exact ⟨rg, bz⟩
end
section
attribute [local go_sem] ext71 ext79 eqA61 eqA62
attribute [local go_sem] max2_int min2_int max_two min_two max_three min_three max_four min_four   -- for this text's walks alone
set_option linter.unusedVariables false
set_option linter.unusedSimpArgs false

/-! ### strconv_FormatUint: function 66 -/
theorem below_grown_z (w : World) (q : Nat) (os : Array Obj) : Below w.heap.size w ((Go.Sort.grow w os).drewN q) :=
  have h : Below w.heap.size w (Go.Sort.grow w os) := ⟨rfl, rfl, rfl, by show w.heap.size ≤ (w.heap ++ os).size; rw [Array.size_append]; omega, fun i hi => by
    show (w.heap ++ os)[i]? = _
    rw [Array.getElem?_append_left hi]⟩
  below_drewN' h q
open Go.Shelf Go.Sort Go.Lib in
set_option maxHeartbeats 6400000 in
set_option maxRecDepth 100000 in
/-- internal/strconv.FormatUint at base 10. -/
theorem fmtU (u : Nat) (hu64 : u < 18446744073709551616) (w : World) (htab : Lib.TabIs Tryd.prog w "internal/strconv.uint64pow10" .u64 Lib.pow10Tab) :
    Calls Tryd.prog 96 #[.int .u64 u, .int .i64 10] w fun e w' => e = .returned (.string ⟨(Lib.decDigits u).toArray⟩) ∧ Below w.heap.size w w' := by
  by_cases hs : u < 100
  · have hw : IntKind.i64.wrap (u : Int) = (u : Int) := by rw [IntKind.wrap_i64]; omega
    have hlt : (u : Int) < 100 := by omega
    go_enter Tryd.func96, Tryd.ntmps96
    go_wp2_with (go_at_call 118; refine (Tryd.internal_strconv_small u hs _).mono ?_; rintro e w' ⟨rfl, rfl⟩)
    go_ret
    exact ⟨rfl, Below.refl _ _⟩
  · have hlt : ¬ (u : Int) < 100 := by omega
    have hu1 : 1 ≤ u := by omega
    have hnd20 : Lib.nDigits u ≤ 20 := by have := Lib.numDigits_eq u hu1 hu64; split at this <;> omega
    have hal : Tryd.prog.arrayLen 138 = 24 := by kernel_rfl
    have hsl1 : ∀ W, (Instr.sliceAt 138 (.pointer (some ⟨w.heap.size, 0, none⟩)) none (some (.int .i64 (Lib.nDigits u : Int))) none).run Tryd.prog W = .ok (.slice (some ⟨w.heap.size, 0, none⟩) (Lib.nDigits u) 24) W := fun W => by
      rw [run_sliceAt_array_h W 138 ⟨w.heap.size, 0, none⟩ (by kernel_rfl) .i64 (Lib.nDigits u : Int) (by omega) (by rw [hal]; omega)]
      go_simp
    have hH0 : Holds (fun (b : UInt8) => Value.int .u8 (b.toNat : Int)) (w.alloc (.cells Lib.zeros24 138)) w.heap.size 0 (Array.replicate (Lib.nDigits u) (0 : UInt8)) := fun j hj => by
      have hj' : j < Lib.nDigits u := by simpa using hj
      refine ⟨?_, World.frozen?_alloc_new _ _ _ _⟩
      rw [World.cell?_alloc_new, Lib.zeros24_at _ (by omega), getElem!_pos _ j hj]
      simp
    have hfmt := Tryd.internal_strconv_formatBase10 w.heap.size 0 24 u (Array.replicate (Lib.nDigits u) 0) (w.alloc (.cells Lib.zeros24 138)) hH0 (by rw [Array.size_replicate]; exact Lib.lt_pow_nDigits u) hu64 (by rw [Array.size_replicate]; omega)
    rw [Array.size_replicate] at hfmt
    have HH0 := Lib.hid hH0
    clear hH0 hal
    go_enter Tryd.func96, Tryd.ntmps96
    go_wp2_with (first
      | (go_at_call 119; refine (Tryd.internal_strconv_numDigits u hu1 hu64 _ (Lib.tabIs_alloc htab _)).mono ?_; rintro e w' ⟨rfl, rfl⟩))
    go_at_call 120
    refine hfmt.mono ?_
    rintro e w' ⟨rfl, k, v', dk, rfl, hF⟩
    have hcv : (convert 111 9 (.slice (some ⟨w.heap.size, 0, none⟩) (Lib.nDigits u) 24)).run Tryd.prog ((putRow (fun (b : UInt8) => Value.int .u8 (b.toNat : Int)) (w.alloc (.cells Lib.zeros24 138)) w.heap.size 0 dk).drewN k) = .ok (.string ⟨(Lib.decDigits u).toArray⟩) ((putRow (fun (b : UInt8) => Value.int .u8 (b.toNat : Int)) (w.alloc (.cells Lib.zeros24 138)) w.heap.size 0 dk).drewN k) := by
      have h := run_convert_bytes_back (P := Tryd.prog) ((putRow (fun (b : UInt8) => Value.int .u8 (b.toNat : Int)) (w.alloc (.cells Lib.zeros24 138)) w.heap.size 0 dk).drewN k) 111 9 5 ⟨w.heap.size, 0, none⟩ 24 (Lib.decDigits u) Tryd.underlying111 Tryd.underlying5 Tryd.underlying9 (fun j hj => by
        rw [Lib.row_is_numeral hF j hj, Lib.add_plain, World.cell?_drewN]
        exact cell?_putRow (fun (b : UInt8) => Value.int .u8 (b.toNat : Int)) _ w.heap.size 0 _ dk HH0.out (by rw [hF.size, Array.size_replicate]) j (by rw [hF.size]; rw [Lib.decDigits_length] at hj; exact hj))
      rw [Lib.decDigits_length] at h
      exact h
    go_wp2
    go_ret
    refine ⟨rfl, ?_⟩
    rw [alloc_eq_grow]
    obtain ⟨os', _, e⟩ := putRow_grow_new (fun (b : UInt8) => Value.int .u8 (b.toNat : Int)) w #[.cells Lib.zeros24 138] w.heap.size 0 dk (Nat.le_refl _)
    rw [e]
    exact below_grown_z w k os'
def strconv_FormatUint.f (a0 : Int) (a1 : Int) : Option (ByteArray) := if 0 ≤ a0 ∧ a0 < 18446744073709551616 ∧ a1 = 10 then some ⟨(Lib.decDigits a0.toNat).toArray⟩ else none
theorem strconv_FormatUint.calls (a0 : Int) (a1 : Int) (r : ByteArray) (w : World) (hT : Aside0 (WF w)) (h : strconv_FormatUint.f a0 a1 = some r) :
    Calls Tryd.prog 66 #[.int .u64 a0, .int .i64 a1] w fun e w' => e = .returned (.string r) ∧ Below w.heap.size w w' := by
  unfold strconv_FormatUint.f at h
  by_cases c : 0 ≤ a0 ∧ a0 < 18446744073709551616 ∧ a1 = 10
  · rw [if_pos c] at h
    obtain rfl := Option.some.inj h
    obtain ⟨h1, h2, rfl⟩ := c
    obtain ⟨u, rfl⟩ := Int.eq_ofNat_of_zero_le h1
    have hc := fmtU u (by omega) w hT.out
    rw [Int.toNat_natCast]
    go_enter Tryd.func66, Tryd.ntmps66
    go_wp2_with (go_at_call 96; refine hc.mono ?_; rintro e w' ⟨rfl, hb⟩)
    go_ret
    exact ⟨rfl, hb⟩
  · rw [if_neg c] at h; cases h
end
section
attribute [local go_sem] ext71 ext79 eqA61 eqA62
attribute [local go_sem] max2_int min2_int max_two min_two max_three min_three max_four min_four   -- for this text's walks alone
set_option linter.unusedVariables false
set_option linter.unusedSimpArgs false

/-! ### strings_Repeat: function 67 -/
def strings_Repeat.f (a0 : ByteArray) (a1 : Int) : Option (ByteArray) := if 0 ≤ a1 ∧ a1 ≤ 1048576 ∧ a0.size ≤ 1048576 then some ⟨(Lib.repeatL a0.data.toList a1.toNat).toArray⟩ else none
theorem strings_Repeat.calls (a0 : ByteArray) (a1 : Int) (r : ByteArray) (w : World) (h : strings_Repeat.f a0 a1 = some r) :
    Calls Tryd.prog 67 #[.string a0, .int .i64 a1] w fun e w' => e = .returned (.string r) ∧ Below w.heap.size w w' := by
  unfold strings_Repeat.f at h
  by_cases c : 0 ≤ a1 ∧ a1 ≤ 1048576 ∧ a0.size ≤ 1048576
  · rw [if_pos c] at h
    obtain rfl := Option.some.inj h
    obtain ⟨h1, h2, h3⟩ := c
    obtain ⟨u, rfl⟩ := Int.eq_ofNat_of_zero_le h1
    have hm : a0.size * u ≤ 1048576 * 1048576 := Nat.mul_le_mul h3 (by omega)
    exact Tryd.strings_Repeat a0 u w (by omega) (by omega)
  · rw [if_neg c] at h; cases h
end
section
attribute [local go_sem] ext71 ext79 eqA61 eqA62
attribute [local go_sem] max2_int min2_int max_two min_two max_three min_three max_four min_four   -- for this text's walks alone
set_option linter.unusedVariables false
set_option linter.unusedSimpArgs false

/-! ### bits_Mul64: function 70 -/
def bits_Mul64.f (a0 : Int) (a1 : Int) : Option (Int × Int) := some (IntKind.u64.wrap ((IntKind.u64.wrap ((IntKind.u64.wrap ((a0 / 4294967296) * (a1 / 4294967296))) + ((IntKind.u64.wrap ((IntKind.u64.wrap ((a0 / 4294967296) * (Go.bits .and .u64 a1 4294967295))) + ((IntKind.u64.wrap ((Go.bits .and .u64 a0 4294967295) * (Go.bits .and .u64 a1 4294967295))) / 4294967296))) / 4294967296))) + ((IntKind.u64.wrap ((Go.bits .and .u64 (IntKind.u64.wrap ((IntKind.u64.wrap ((a0 / 4294967296) * (Go.bits .and .u64 a1 4294967295))) + ((IntKind.u64.wrap ((Go.bits .and .u64 a0 4294967295) * (Go.bits .and .u64 a1 4294967295))) / 4294967296))) 4294967295) + (IntKind.u64.wrap ((Go.bits .and .u64 a0 4294967295) * (a1 / 4294967296))))) / 4294967296)), IntKind.u64.wrap (a0 * a1))
set_option maxHeartbeats 8000000 in
set_option maxRecDepth 100000 in
theorem bits_Mul64.calls (a0 : Int) (a1 : Int) (r1 : Int) (r2 : Int) (w : World) (h : bits_Mul64.f a0 a1 = some (r1, r2)) :
 Calls Tryd.prog 70 #[.int .u64 a0, .int .u64 a1] w fun e w' => e = .returned (.tuple #[.int .u64 r1, .int .u64 r2]) ∧ Below w.heap.size w w' := by
 have HB := am (Below.refl w.heap.size w); have H : (some (IntKind.u64.wrap ((IntKind.u64.wrap ((IntKind.u64.wrap ((a0 / 4294967296) * (a1 / 4294967296))) + ((IntKind.u64.wrap ((IntKind.u64.wrap ((a0 / 4294967296) * (Go.bits .and .u64 a1 4294967295))) + ((IntKind.u64.wrap ((Go.bits .and .u64 a0 4294967295) * (Go.bits .and .u64 a1 4294967295))) / 4294967296))) / 4294967296))) + ((IntKind.u64.wrap ((Go.bits .and .u64 (IntKind.u64.wrap ((IntKind.u64.wrap ((a0 / 4294967296) * (Go.bits .and .u64 a1 4294967295))) + ((IntKind.u64.wrap ((Go.bits .and .u64 a0 4294967295) * (Go.bits .and .u64 a1 4294967295))) / 4294967296))) 4294967295) + (IntKind.u64.wrap ((Go.bits .and .u64 a0 4294967295) * (a1 / 4294967296))))) / 4294967296)), IntKind.u64.wrap (a0 * a1))) = some (r1, r2) := h; clear h
 simp only [Option.some.injEq, Prod.mk.injEq] at H
 obtain ⟨rfl, rfl⟩ := H
 go_enter Tryd.func70, Tryd.ntmps70
 go_wp2
 go_ret2
 exact ⟨rg, by repeat (first | (with_reducible first | exact HB.out | apply dA | apply dB | apply dC) | exact HB.out)⟩
end
section
attribute [local go_sem] ext71 ext79 eqA61 eqA62
attribute [local go_sem] max2_int min2_int max_two min_two max_three min_three max_four min_four   -- for this text's walks alone
set_option linter.unusedVariables false
set_option linter.unusedSimpArgs false

/-! ### strconv_FormatInt: function 87 -/
def strconv_FormatInt.f (a0 : Int) (a1 : Int) : Option (ByteArray) := if -9223372036854775808 ≤ a0 ∧ a0 ≤ 9223372036854775807 ∧ a1 = 10 then some ⟨(Lib.itoa a0).toArray⟩ else none
theorem strconv_FormatInt.calls (a0 : Int) (a1 : Int) (r : ByteArray) (w : World) (hT : Aside0 (WF w)) (h : strconv_FormatInt.f a0 a1 = some r) :
    Calls Tryd.prog 87 #[.int .i64 a0, .int .i64 a1] w fun e w' => e = .returned (.string r) ∧ Below w.heap.size w w' := by
  unfold strconv_FormatInt.f at h
  by_cases c : -9223372036854775808 ≤ a0 ∧ a0 ≤ 9223372036854775807 ∧ a1 = 10
  · rw [if_pos c] at h
    obtain rfl := Option.some.inj h
    obtain ⟨h1, h2, rfl⟩ := c
    refine (Tryd.strconv_FormatInt_10 a0 h1 h2 w hT.out).mono ?_
    rintro e w' ⟨rfl, k, os, rfl⟩
    exact ⟨rfl, below_grown w k os⟩
  · rw [if_neg c] at h; cases h
end
end Go.Proofs.YtcfhmbhlibhlnaaDoor.P
