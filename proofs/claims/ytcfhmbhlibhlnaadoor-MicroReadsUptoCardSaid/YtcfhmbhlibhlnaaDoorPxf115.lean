-- Printed by this session's own pp.py (wip/tool) out of the translation.
import Derived.Test.YtcfhmbhlibhlnaaDoorPx0
namespace Go.Proofs.YtcfhmbhlibhlnaaDoor.P
open Go.RowKit Go.Proofs.YtcfhmbhlibhlnaaDoorW.PrintWords Go.Proofs.YtcfhmbhlibhlnaaDoorW.PrintLast Go.Proofs.YtcfhmbhlibhlnaaDoorW.PrintMore Go.Proofs.YtcfhmbhlibhlnaaDoor.Mine
attribute [local go_sem] ext71 ext79 eqA61 eqA62
attribute [local go_sem] max2_int min2_int max_two min_two max_three min_three max_four min_four   -- for this text's walks alone
set_option linter.unusedVariables false
set_option linter.unusedSimpArgs false

/-! ### micro_tens: function 115 -/
def micro_tens.f (a0 : Int) : Option (Int) := if a0 = 0 then (some 1) else (if a0 = 1 then (some 10) else (if a0 = 2 then (some 100) else (if a0 = 3 then (some 1000) else (if a0 = 4 then (some 10000) else (if a0 = 5 then (some 100000) else (if a0 = 6 then (some 1000000) else (none)))))))
set_option maxHeartbeats 8000000 in
set_option maxRecDepth 100000 in
theorem micro_tens.calls (a0 : Int) (r : Int) (w : World) (h : micro_tens.f a0 = some r) :
 Calls Tryd.prog 115 #[.int .i64 a0] w fun e w' => e = .returned (.int .i64 r) ∧ Below w.heap.size w w' := by
 have hu149 := Tryd.underlying149; have HB := am (Below.refl w.heap.size w); have H : (if a0 = 0 then (some 1) else (if a0 = 1 then (some 10) else (if a0 = 2 then (some 100) else (if a0 = 3 then (some 1000) else (if a0 = 4 then (some 10000) else (if a0 = 5 then (some 100000) else (if a0 = 6 then (some 1000000) else (none)))))))) = some r := h; clear h
 by_cases c2 : a0 = 0
 · rw [if_pos c2] at H
   have c2b0 : (a0 == 0) = true := beq_iff_eq.mpr c2; have c2b1 : (a0 != 0) = false := bne_eq_false_iff_eq.mpr c2; have c2E : a0 = 0 := c2; clear c2
   obtain rfl := Option.some.inj H
   go_enter Tryd.func115, Tryd.ntmps115
   go_wp2_with (first | ((with_reducible refine gate_dst (N := 3) rfl ?_); refine box_event (by rfl) (N := 3) (by rfl) (cs := #[.int .i64 0, .int .i64 0, .int .i64 0, .int .i64 0, .int .i64 0, .int .i64 0, .int .i64 0]) (t := 149) (by go_simp <;> rfl) ?_; intro gb1009 hg w3 hbox hb; have BK1009 := am (hbox); have GW1009 := gw w hg; replace HB := am (below_step bz hb); clear hb hbox hg; have hcz4_0 : w3.cell? ⟨gb1009, 0, none⟩ = some (.int .i64 0) := bc BK1009 0; have hcz4_1 : w3.cell? ⟨gb1009, 1, none⟩ = some (.int .i64 0) := bc BK1009 1; have hcz4_2 : w3.cell? ⟨gb1009, 2, none⟩ = some (.int .i64 0) := bc BK1009 2; have hcz4_3 : w3.cell? ⟨gb1009, 3, none⟩ = some (.int .i64 0) := bc BK1009 3; have hcz4_4 : w3.cell? ⟨gb1009, 4, none⟩ = some (.int .i64 0) := bc BK1009 4; have hcz4_5 : w3.cell? ⟨gb1009, 5, none⟩ = some (.int .i64 0) := bc BK1009 5; have hcz4_6 : w3.cell? ⟨gb1009, 6, none⟩ = some (.int .i64 0) := bc BK1009 6; have hfz4_0 := blk_frozen BK1009.out 0; have hfz4_1 := blk_frozen BK1009.out 1; have hfz4_2 := blk_frozen BK1009.out 2; have hfz4_3 := blk_frozen BK1009.out 3; have hfz4_4 := blk_frozen BK1009.out 4; have hfz4_5 := blk_frozen BK1009.out 5; have hfz4_6 := blk_frozen BK1009.out 6))
   go_ret
   exact ⟨rg, bz⟩
 · rw [if_neg c2] at H
   have c2b0 : (a0 == 0) = false := beq_eq_false_iff_ne.mpr c2; have c2b1 : (a0 != 0) = true := bne_iff_ne.mpr c2
   by_cases c5 : a0 = 1
   · rw [if_pos c5] at H
     have c5b0 : (a0 == 1) = true := beq_iff_eq.mpr c5; have c5b1 : (a0 != 1) = false := bne_eq_false_iff_eq.mpr c5; have c5E : a0 = 1 := c5; clear c5
     obtain rfl := Option.some.inj H
     go_enter Tryd.func115, Tryd.ntmps115
     go_wp2_with (first | ((with_reducible refine gate_dst (N := 3) rfl ?_); refine box_event (by rfl) (N := 3) (by rfl) (cs := #[.int .i64 0, .int .i64 0, .int .i64 0, .int .i64 0, .int .i64 0, .int .i64 0, .int .i64 0]) (t := 149) (by go_simp <;> rfl) ?_; intro gb1009 hg w6 hbox hb; have BK1009 := am (hbox); have GW1009 := gw w hg; replace HB := am (below_step bz hb); clear hb hbox hg; have hcz7_0 : w6.cell? ⟨gb1009, 0, none⟩ = some (.int .i64 0) := bc BK1009 0; have hcz7_1 : w6.cell? ⟨gb1009, 1, none⟩ = some (.int .i64 0) := bc BK1009 1; have hcz7_2 : w6.cell? ⟨gb1009, 2, none⟩ = some (.int .i64 0) := bc BK1009 2; have hcz7_3 : w6.cell? ⟨gb1009, 3, none⟩ = some (.int .i64 0) := bc BK1009 3; have hcz7_4 : w6.cell? ⟨gb1009, 4, none⟩ = some (.int .i64 0) := bc BK1009 4; have hcz7_5 : w6.cell? ⟨gb1009, 5, none⟩ = some (.int .i64 0) := bc BK1009 5; have hcz7_6 : w6.cell? ⟨gb1009, 6, none⟩ = some (.int .i64 0) := bc BK1009 6; have hfz7_0 := blk_frozen BK1009.out 0; have hfz7_1 := blk_frozen BK1009.out 1; have hfz7_2 := blk_frozen BK1009.out 2; have hfz7_3 := blk_frozen BK1009.out 3; have hfz7_4 := blk_frozen BK1009.out 4; have hfz7_5 := blk_frozen BK1009.out 5; have hfz7_6 := blk_frozen BK1009.out 6))
     go_ret
     exact ⟨rg, bz⟩
   · rw [if_neg c5] at H
     have c5b0 : (a0 == 1) = false := beq_eq_false_iff_ne.mpr c5; have c5b1 : (a0 != 1) = true := bne_iff_ne.mpr c5
     by_cases c8 : a0 = 2
     · rw [if_pos c8] at H
       have c8b0 : (a0 == 2) = true := beq_iff_eq.mpr c8; have c8b1 : (a0 != 2) = false := bne_eq_false_iff_eq.mpr c8; have c8E : a0 = 2 := c8; clear c8
       obtain rfl := Option.some.inj H
       go_enter Tryd.func115, Tryd.ntmps115
       go_wp2_with (first | ((with_reducible refine gate_dst (N := 3) rfl ?_); refine box_event (by rfl) (N := 3) (by rfl) (cs := #[.int .i64 0, .int .i64 0, .int .i64 0, .int .i64 0, .int .i64 0, .int .i64 0, .int .i64 0]) (t := 149) (by go_simp <;> rfl) ?_; intro gb1009 hg w9 hbox hb; have BK1009 := am (hbox); have GW1009 := gw w hg; replace HB := am (below_step bz hb); clear hb hbox hg; have hcz10_0 : w9.cell? ⟨gb1009, 0, none⟩ = some (.int .i64 0) := bc BK1009 0; have hcz10_1 : w9.cell? ⟨gb1009, 1, none⟩ = some (.int .i64 0) := bc BK1009 1; have hcz10_2 : w9.cell? ⟨gb1009, 2, none⟩ = some (.int .i64 0) := bc BK1009 2; have hcz10_3 : w9.cell? ⟨gb1009, 3, none⟩ = some (.int .i64 0) := bc BK1009 3; have hcz10_4 : w9.cell? ⟨gb1009, 4, none⟩ = some (.int .i64 0) := bc BK1009 4; have hcz10_5 : w9.cell? ⟨gb1009, 5, none⟩ = some (.int .i64 0) := bc BK1009 5; have hcz10_6 : w9.cell? ⟨gb1009, 6, none⟩ = some (.int .i64 0) := bc BK1009 6; have hfz10_0 := blk_frozen BK1009.out 0; have hfz10_1 := blk_frozen BK1009.out 1; have hfz10_2 := blk_frozen BK1009.out 2; have hfz10_3 := blk_frozen BK1009.out 3; have hfz10_4 := blk_frozen BK1009.out 4; have hfz10_5 := blk_frozen BK1009.out 5; have hfz10_6 := blk_frozen BK1009.out 6))
       go_ret
       exact ⟨rg, bz⟩
     · rw [if_neg c8] at H
       have c8b0 : (a0 == 2) = false := beq_eq_false_iff_ne.mpr c8; have c8b1 : (a0 != 2) = true := bne_iff_ne.mpr c8
       by_cases c11 : a0 = 3
       · rw [if_pos c11] at H
         have c11b0 : (a0 == 3) = true := beq_iff_eq.mpr c11; have c11b1 : (a0 != 3) = false := bne_eq_false_iff_eq.mpr c11; have c11E : a0 = 3 := c11; clear c11
         obtain rfl := Option.some.inj H
         go_enter Tryd.func115, Tryd.ntmps115
         go_wp2_with (first | ((with_reducible refine gate_dst (N := 3) rfl ?_); refine box_event (by rfl) (N := 3) (by rfl) (cs := #[.int .i64 0, .int .i64 0, .int .i64 0, .int .i64 0, .int .i64 0, .int .i64 0, .int .i64 0]) (t := 149) (by go_simp <;> rfl) ?_; intro gb1009 hg w12 hbox hb; have BK1009 := am (hbox); have GW1009 := gw w hg; replace HB := am (below_step bz hb); clear hb hbox hg; have hcz13_0 : w12.cell? ⟨gb1009, 0, none⟩ = some (.int .i64 0) := bc BK1009 0; have hcz13_1 : w12.cell? ⟨gb1009, 1, none⟩ = some (.int .i64 0) := bc BK1009 1; have hcz13_2 : w12.cell? ⟨gb1009, 2, none⟩ = some (.int .i64 0) := bc BK1009 2; have hcz13_3 : w12.cell? ⟨gb1009, 3, none⟩ = some (.int .i64 0) := bc BK1009 3; have hcz13_4 : w12.cell? ⟨gb1009, 4, none⟩ = some (.int .i64 0) := bc BK1009 4; have hcz13_5 : w12.cell? ⟨gb1009, 5, none⟩ = some (.int .i64 0) := bc BK1009 5; have hcz13_6 : w12.cell? ⟨gb1009, 6, none⟩ = some (.int .i64 0) := bc BK1009 6; have hfz13_0 := blk_frozen BK1009.out 0; have hfz13_1 := blk_frozen BK1009.out 1; have hfz13_2 := blk_frozen BK1009.out 2; have hfz13_3 := blk_frozen BK1009.out 3; have hfz13_4 := blk_frozen BK1009.out 4; have hfz13_5 := blk_frozen BK1009.out 5; have hfz13_6 := blk_frozen BK1009.out 6))
         go_ret
         exact ⟨rg, bz⟩
       · rw [if_neg c11] at H
         have c11b0 : (a0 == 3) = false := beq_eq_false_iff_ne.mpr c11; have c11b1 : (a0 != 3) = true := bne_iff_ne.mpr c11
         by_cases c14 : a0 = 4
         · rw [if_pos c14] at H
           have c14b0 : (a0 == 4) = true := beq_iff_eq.mpr c14; have c14b1 : (a0 != 4) = false := bne_eq_false_iff_eq.mpr c14; have c14E : a0 = 4 := c14; clear c14
           obtain rfl := Option.some.inj H
           go_enter Tryd.func115, Tryd.ntmps115
           go_wp2_with (first | ((with_reducible refine gate_dst (N := 3) rfl ?_); refine box_event (by rfl) (N := 3) (by rfl) (cs := #[.int .i64 0, .int .i64 0, .int .i64 0, .int .i64 0, .int .i64 0, .int .i64 0, .int .i64 0]) (t := 149) (by go_simp <;> rfl) ?_; intro gb1009 hg w15 hbox hb; have BK1009 := am (hbox); have GW1009 := gw w hg; replace HB := am (below_step bz hb); clear hb hbox hg; have hcz16_0 : w15.cell? ⟨gb1009, 0, none⟩ = some (.int .i64 0) := bc BK1009 0; have hcz16_1 : w15.cell? ⟨gb1009, 1, none⟩ = some (.int .i64 0) := bc BK1009 1; have hcz16_2 : w15.cell? ⟨gb1009, 2, none⟩ = some (.int .i64 0) := bc BK1009 2; have hcz16_3 : w15.cell? ⟨gb1009, 3, none⟩ = some (.int .i64 0) := bc BK1009 3; have hcz16_4 : w15.cell? ⟨gb1009, 4, none⟩ = some (.int .i64 0) := bc BK1009 4; have hcz16_5 : w15.cell? ⟨gb1009, 5, none⟩ = some (.int .i64 0) := bc BK1009 5; have hcz16_6 : w15.cell? ⟨gb1009, 6, none⟩ = some (.int .i64 0) := bc BK1009 6; have hfz16_0 := blk_frozen BK1009.out 0; have hfz16_1 := blk_frozen BK1009.out 1; have hfz16_2 := blk_frozen BK1009.out 2; have hfz16_3 := blk_frozen BK1009.out 3; have hfz16_4 := blk_frozen BK1009.out 4; have hfz16_5 := blk_frozen BK1009.out 5; have hfz16_6 := blk_frozen BK1009.out 6))
           go_ret
           exact ⟨rg, bz⟩
         · rw [if_neg c14] at H
           have c14b0 : (a0 == 4) = false := beq_eq_false_iff_ne.mpr c14; have c14b1 : (a0 != 4) = true := bne_iff_ne.mpr c14
           by_cases c17 : a0 = 5
           · rw [if_pos c17] at H
             have c17b0 : (a0 == 5) = true := beq_iff_eq.mpr c17; have c17b1 : (a0 != 5) = false := bne_eq_false_iff_eq.mpr c17; have c17E : a0 = 5 := c17; clear c17
             obtain rfl := Option.some.inj H
             go_enter Tryd.func115, Tryd.ntmps115
             go_wp2_with (first | ((with_reducible refine gate_dst (N := 3) rfl ?_); refine box_event (by rfl) (N := 3) (by rfl) (cs := #[.int .i64 0, .int .i64 0, .int .i64 0, .int .i64 0, .int .i64 0, .int .i64 0, .int .i64 0]) (t := 149) (by go_simp <;> rfl) ?_; intro gb1009 hg w18 hbox hb; have BK1009 := am (hbox); have GW1009 := gw w hg; replace HB := am (below_step bz hb); clear hb hbox hg; have hcz19_0 : w18.cell? ⟨gb1009, 0, none⟩ = some (.int .i64 0) := bc BK1009 0; have hcz19_1 : w18.cell? ⟨gb1009, 1, none⟩ = some (.int .i64 0) := bc BK1009 1; have hcz19_2 : w18.cell? ⟨gb1009, 2, none⟩ = some (.int .i64 0) := bc BK1009 2; have hcz19_3 : w18.cell? ⟨gb1009, 3, none⟩ = some (.int .i64 0) := bc BK1009 3; have hcz19_4 : w18.cell? ⟨gb1009, 4, none⟩ = some (.int .i64 0) := bc BK1009 4; have hcz19_5 : w18.cell? ⟨gb1009, 5, none⟩ = some (.int .i64 0) := bc BK1009 5; have hcz19_6 : w18.cell? ⟨gb1009, 6, none⟩ = some (.int .i64 0) := bc BK1009 6; have hfz19_0 := blk_frozen BK1009.out 0; have hfz19_1 := blk_frozen BK1009.out 1; have hfz19_2 := blk_frozen BK1009.out 2; have hfz19_3 := blk_frozen BK1009.out 3; have hfz19_4 := blk_frozen BK1009.out 4; have hfz19_5 := blk_frozen BK1009.out 5; have hfz19_6 := blk_frozen BK1009.out 6))
             go_ret
             exact ⟨rg, bz⟩
           · rw [if_neg c17] at H
             have c17b0 : (a0 == 5) = false := beq_eq_false_iff_ne.mpr c17; have c17b1 : (a0 != 5) = true := bne_iff_ne.mpr c17
             by_cases c20 : a0 = 6
             · rw [if_pos c20] at H
               have c20b0 : (a0 == 6) = true := beq_iff_eq.mpr c20; have c20b1 : (a0 != 6) = false := bne_eq_false_iff_eq.mpr c20; have c20E : a0 = 6 := c20; clear c20
               obtain rfl := Option.some.inj H
               go_enter Tryd.func115, Tryd.ntmps115
               go_wp2_with (first | ((with_reducible refine gate_dst (N := 3) rfl ?_); refine box_event (by rfl) (N := 3) (by rfl) (cs := #[.int .i64 0, .int .i64 0, .int .i64 0, .int .i64 0, .int .i64 0, .int .i64 0, .int .i64 0]) (t := 149) (by go_simp <;> rfl) ?_; intro gb1009 hg w21 hbox hb; have BK1009 := am (hbox); have GW1009 := gw w hg; replace HB := am (below_step bz hb); clear hb hbox hg; have hcz22_0 : w21.cell? ⟨gb1009, 0, none⟩ = some (.int .i64 0) := bc BK1009 0; have hcz22_1 : w21.cell? ⟨gb1009, 1, none⟩ = some (.int .i64 0) := bc BK1009 1; have hcz22_2 : w21.cell? ⟨gb1009, 2, none⟩ = some (.int .i64 0) := bc BK1009 2; have hcz22_3 : w21.cell? ⟨gb1009, 3, none⟩ = some (.int .i64 0) := bc BK1009 3; have hcz22_4 : w21.cell? ⟨gb1009, 4, none⟩ = some (.int .i64 0) := bc BK1009 4; have hcz22_5 : w21.cell? ⟨gb1009, 5, none⟩ = some (.int .i64 0) := bc BK1009 5; have hcz22_6 : w21.cell? ⟨gb1009, 6, none⟩ = some (.int .i64 0) := bc BK1009 6; have hfz22_0 := blk_frozen BK1009.out 0; have hfz22_1 := blk_frozen BK1009.out 1; have hfz22_2 := blk_frozen BK1009.out 2; have hfz22_3 := blk_frozen BK1009.out 3; have hfz22_4 := blk_frozen BK1009.out 4; have hfz22_5 := blk_frozen BK1009.out 5; have hfz22_6 := blk_frozen BK1009.out 6))
               go_ret
               exact ⟨rg, bz⟩
             · rw [if_neg c20] at H
               exact absurd H (by simp)

end Go.Proofs.YtcfhmbhlibhlnaaDoor.P
