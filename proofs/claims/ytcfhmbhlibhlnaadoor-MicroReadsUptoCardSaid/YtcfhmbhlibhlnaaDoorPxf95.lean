-- Printed by this session's own pp.py (wip/tool) out of the translation.
import Derived.Test.YtcfhmbhlibhlnaaDoorPx0
import Derived.Test.YtcfhmbhlibhlnaaDoorPxf113
namespace Go.Proofs.YtcfhmbhlibhlnaaDoor.P
open Go.RowKit Go.Proofs.YtcfhmbhlibhlnaaDoorW.PrintWords Go.Proofs.YtcfhmbhlibhlnaaDoorW.PrintLast Go.Proofs.YtcfhmbhlibhlnaaDoorW.PrintMore Go.Proofs.YtcfhmbhlibhlnaaDoor.Mine
attribute [local go_sem] ext71 ext79 eqA61 eqA62
attribute [local go_sem] max2_int min2_int max_two min_two max_three min_three max_four min_four   -- for this text's walks alone
set_option linter.unusedVariables false
set_option linter.unusedSimpArgs false

/-! ### tumblerref02_Signed: function 95 -/
def tumblerref02_Signed.j0 : Nat → Bool → Bool → Int → Int → Bool → Option (Int × Int × Bool)
 | 0, _, _, _, _, _ => none
 | k + 1, x1, x27, x1114000, x1114001, x1114002 => if x27 = true then (some (0, 0, false)) else (if x1 = true then ((tumblerref02_Plus.f (Go.bits .xor .u64 18446744073709551615 x1114000) (Go.bits .xor .u64 18446744073709551615 x1114001) false 0 1 false).bind fun bt1115 => (some (wrap64 (bt1115.1), bt1115.2.1, true))) else (some (wrap64 (x1114000), x1114001, true)))
def tumblerref02_Signed.f (k : Nat) (a0_0 : Int) (a0_1 : Int) (a0_2 : Bool) (a1 : Bool) : Option (Int × Int × Bool) := if a0_2 = true then (tumblerref02_Signed.j0 k a1 true a0_0 a0_1 a0_2) else (if a0_0 > 9223372036854775808 then (tumblerref02_Signed.j0 k a1 true a0_0 a0_1 a0_2) else (if a0_0 = 9223372036854775808 then (if a0_1 > 0 then (tumblerref02_Signed.j0 k a1 true a0_0 a0_1 a0_2) else (tumblerref02_Signed.j0 k a1 (!a1) a0_0 a0_1 a0_2)) else (tumblerref02_Signed.j0 k a1 false a0_0 a0_1 a0_2)))
theorem tumblerref02_Signed.mono_l : ∀ k, (∀ y0 y1 y2 y3 y4, LeO (tumblerref02_Signed.j0 k y0 y1 y2 y3 y4) (tumblerref02_Signed.j0 (k + 1) y0 y1 y2 y3 y4))
 | 0 => fun _ _ _ _ _ r h => by simp [tumblerref02_Signed.j0] at h
 | k + 1 => by
  have ih0 := tumblerref02_Signed.mono_l k
  · intro y0 y1 y2 y3 y4
    unfold tumblerref02_Signed.j0
    repeat' first
    | (with_reducible exact ih0 _ _ _ _ _)
    | (with_reducible exact LeO.refl _)
    | (with_reducible exact LeO.none _)
    | (with_reducible refine LeO.ite ?_ ?_)
    | (with_reducible refine LeO.bind ?_ (fun _ => ?_))
    | exact ih0 _ _ _ _ _
    | exact LeO.none _
    | refine LeO.ite ?_ ?_
    | refine LeO.bind ?_ (fun _ => ?_)
theorem tumblerref02_Signed.mono : ∀ a0 a1 a2 a3 k, LeO (tumblerref02_Signed.f k a0 a1 a2 a3) (tumblerref02_Signed.f (k + 1) a0 a1 a2 a3) := by
 intro a0 a1 a2 a3 k; have ih0 := tumblerref02_Signed.mono_l k
 unfold tumblerref02_Signed.f
 repeat' first
  | (with_reducible exact ih0 _ _ _ _ _)
  | (with_reducible exact LeO.refl _)
  | (with_reducible exact LeO.none _)
  | (with_reducible refine LeO.ite ?_ ?_)
  | (with_reducible refine LeO.bind ?_ (fun _ => ?_))
  | exact ih0 _ _ _ _ _
  | exact LeO.none _
  | refine LeO.ite ?_ ?_
  | refine LeO.bind ?_ (fun _ => ?_)
set_option maxHeartbeats 8000000 in
set_option maxRecDepth 100000 in
theorem tumblerref02_Signed.calls (k : Nat) (a0_0 : Int) (a0_1 : Int) (a0_2 : Bool) (a1 : Bool) (r1 : Int) (r2 : Int) (r3 : Bool) (w : World) (h : tumblerref02_Signed.f k a0_0 a0_1 a0_2 a1 = some (r1, r2, r3)) :
 Calls Tryd.prog 95 #[.agg #[.int .u64 a0_0, .int .u64 a0_1, .bool a0_2], .bool a1] w fun e w' => e = .returned (.tuple #[.agg #[.int .i64 r1, .int .u64 r2], .bool r3]) ∧ Below w.heap.size w w' := by
 have hu93 := Tryd.underlying93; have hu24 := Tryd.underlying24; have HB := am (Below.refl w.heap.size w); have H : (if a0_2 = true then (tumblerref02_Signed.j0 k a1 true a0_0 a0_1 a0_2) else (if a0_0 > 9223372036854775808 then (tumblerref02_Signed.j0 k a1 true a0_0 a0_1 a0_2) else (if a0_0 = 9223372036854775808 then (if a0_1 > 0 then (tumblerref02_Signed.j0 k a1 true a0_0 a0_1 a0_2) else (tumblerref02_Signed.j0 k a1 (!a1) a0_0 a0_1 a0_2)) else (tumblerref02_Signed.j0 k a1 false a0_0 a0_1 a0_2)))) = some (r1, r2, r3) := h; clear h; have HC3 := Aside0.mk H; clear H
 go_enter Tryd.func95, Tryd.ntmps95
 go_upto_region 1 with (first | ((with_reducible refine gate_dst (N := 2) rfl ?_); refine box_event (by rfl) (N := 2) (by rfl) (cs := #[.int .u64 a0_0, .int .u64 a0_1, .bool a0_2]) (t := 93) (by go_simp <;> rfl) ?_; intro gb1113 hg w4 hbox hb; have BK1113 := am (hbox); have GW1113 := gw w hg; replace HB := am (below_step bz hb); clear hb hbox hg) | ((with_reducible refine gate_dst (N := 4) rfl ?_); refine box_event (by rfl) (N := 4) (by rfl) (cs := #[.int .i64 0, .int .u64 0]) (t := 24) (by go_simp <;> rfl) ?_; intro gb1114 hg w5 hbox hb; have BK1114 := am (hbox); have GW1114 := gw w hg; replace HB := am (below_step bz hb); have NB1113_1114 := nl BK1113 hg; have NB1114_1113 := nr BK1113 hg; replace BK1113 := am (bb BK1113 hb); clear hb hbox hg))
 (try simp only [Act.put, List.setIfInBounds_toArray, List.set_cons_zero, List.set_cons_succ])
 go_cut [27] (fun v27 wc => ∃ (kq : Nat) (x27_2 : Bool), v27 = .bool x27_2 ∧ Aside0 (tumblerref02_Signed.j0 kq a1 x27_2 a0_0 a0_1 a0_2 = some (r1, r2, r3)) ∧ Aside0 (kq ≤ k) ∧ Aside0 (wc.heap[gb1113]? = some (.cells #[.int .u64 a0_0, .int .u64 a0_1, .bool a0_2] 93 (0, 0))) ∧ Aside0 (wc.heap[gb1114]? = some (.cells #[.int .i64 0, .int .u64 0] 24 (0, 0))) ∧ Aside0 (Below w.heap.size w wc))
 case first =>
  have H := HC3.out; clear HC3
  by_cases c6 : a0_2 = true
  · subst c6
    have H1 : (tumblerref02_Signed.j0 k a1 true a0_0 a0_1 true) = some (r1, r2, r3) := by rw [if_pos rfl] at H; exact H
    clear H; have H := H1; clear H1; have H' := Aside0.mk H; clear H; have hnb7 := NB1113_1114.out; have hnc7 := NB1114_1113.out; have hcz8_0 : w5.cell? ⟨gb1113, 0, none⟩ = some (.int .u64 a0_0) := bc BK1113 0; have hcz8_1 : w5.cell? ⟨gb1113, 1, none⟩ = some (.int .u64 a0_1) := bc BK1113 1; have hcz8_2 : w5.cell? ⟨gb1113, 2, none⟩ = some (.bool true) := bc BK1113 2; have hfz8_0 := blk_frozen BK1113.out 0; have hfz8_1 := blk_frozen BK1113.out 1; have hfz8_2 := blk_frozen BK1113.out 2
    go_wp2
    go_meet
    case rel => exact ⟨_, (true), rs, H', ⟨by first | omega | exact Nat.le_refl _⟩, kf, kf, ⟨bz⟩⟩
  · replace c6 := Bool.eq_false_iff.mpr c6
    subst c6
    have H1 : (if a0_0 > 9223372036854775808 then (tumblerref02_Signed.j0 k a1 true a0_0 a0_1 false) else (if a0_0 = 9223372036854775808 then (if a0_1 > 0 then (tumblerref02_Signed.j0 k a1 true a0_0 a0_1 false) else (tumblerref02_Signed.j0 k a1 (!a1) a0_0 a0_1 false)) else (tumblerref02_Signed.j0 k a1 false a0_0 a0_1 false))) = some (r1, r2, r3) := by rw [if_neg (show ¬ (false = true) by decide)] at H; exact H
    clear H; have H := H1; clear H1
    by_cases c9 : a0_0 > 9223372036854775808
    · rw [if_pos c9] at H
      have c9b0 : decide (9223372036854775808 < a0_0) = true := decide_eq_true c9; clear c9
      (first | rw [c9b0] | (simp only [i64_w, i32_w]; rw [c9b0]) | skip)
      have H' := Aside0.mk H; clear H; have hnb10 := NB1113_1114.out; have hnc10 := NB1114_1113.out; have hcz11_0 : w5.cell? ⟨gb1113, 0, none⟩ = some (.int .u64 a0_0) := bc BK1113 0; have hcz11_1 : w5.cell? ⟨gb1113, 1, none⟩ = some (.int .u64 a0_1) := bc BK1113 1; have hcz11_2 : w5.cell? ⟨gb1113, 2, none⟩ = some (.bool false) := bc BK1113 2; have hfz11_0 := blk_frozen BK1113.out 0; have hfz11_1 := blk_frozen BK1113.out 1; have hfz11_2 := blk_frozen BK1113.out 2
      go_wp2
      go_meet
      case rel => exact ⟨_, (true), rs, H', ⟨by first | omega | exact Nat.le_refl _⟩, kf, kf, ⟨bz⟩⟩
    · rw [if_neg c9] at H
      have c9b0 : decide (9223372036854775808 < a0_0) = false := decide_eq_false c9; clear c9
      (first | rw [c9b0] | (simp only [i64_w, i32_w]; rw [c9b0]) | skip)
      by_cases c12 : a0_0 = 9223372036854775808
      · rw [if_pos c12] at H
        have c12b0 : (a0_0 == 9223372036854775808) = true := beq_iff_eq.mpr c12; have c12b1 : (a0_0 != 9223372036854775808) = false := bne_eq_false_iff_eq.mpr c12; clear c12
        by_cases c13 : a0_1 > 0
        · rw [if_pos c13] at H
          have c13b0 : decide (0 < a0_1) = true := decide_eq_true c13; clear c13; have H' := Aside0.mk H; clear H; have hnb14 := NB1113_1114.out; have hnc14 := NB1114_1113.out; have hcz15_0 : w5.cell? ⟨gb1113, 0, none⟩ = some (.int .u64 a0_0) := bc BK1113 0; have hcz15_1 : w5.cell? ⟨gb1113, 1, none⟩ = some (.int .u64 a0_1) := bc BK1113 1; have hcz15_2 : w5.cell? ⟨gb1113, 2, none⟩ = some (.bool false) := bc BK1113 2; have hfz15_0 := blk_frozen BK1113.out 0; have hfz15_1 := blk_frozen BK1113.out 1; have hfz15_2 := blk_frozen BK1113.out 2
          go_wp2
          go_meet
          case rel => exact ⟨_, (true), rs, H', ⟨by first | omega | exact Nat.le_refl _⟩, kf, kf, ⟨bz⟩⟩
        · rw [if_neg c13] at H
          have c13b0 : decide (0 < a0_1) = false := decide_eq_false c13; clear c13; have H' := Aside0.mk H; clear H; have hnb16 := NB1113_1114.out; have hnc16 := NB1114_1113.out; have hcz17_0 : w5.cell? ⟨gb1113, 0, none⟩ = some (.int .u64 a0_0) := bc BK1113 0; have hcz17_1 : w5.cell? ⟨gb1113, 1, none⟩ = some (.int .u64 a0_1) := bc BK1113 1; have hcz17_2 : w5.cell? ⟨gb1113, 2, none⟩ = some (.bool false) := bc BK1113 2; have hfz17_0 := blk_frozen BK1113.out 0; have hfz17_1 := blk_frozen BK1113.out 1; have hfz17_2 := blk_frozen BK1113.out 2
          go_wp2
          go_meet
          case rel => exact ⟨_, (!a1), rs, H', ⟨by first | omega | exact Nat.le_refl _⟩, kf, kf, ⟨bz⟩⟩
      · rw [if_neg c12] at H
        have c12b0 : (a0_0 == 9223372036854775808) = false := beq_eq_false_iff_ne.mpr c12; have c12b1 : (a0_0 != 9223372036854775808) = true := bne_iff_ne.mpr c12; have H' := Aside0.mk H; clear H; have hnb18 := NB1113_1114.out; have hnc18 := NB1114_1113.out; have hcz19_0 : w5.cell? ⟨gb1113, 0, none⟩ = some (.int .u64 a0_0) := bc BK1113 0; have hcz19_1 : w5.cell? ⟨gb1113, 1, none⟩ = some (.int .u64 a0_1) := bc BK1113 1; have hcz19_2 : w5.cell? ⟨gb1113, 2, none⟩ = some (.bool false) := bc BK1113 2; have hfz19_0 := blk_frozen BK1113.out 0; have hfz19_1 := blk_frozen BK1113.out 1; have hfz19_2 := blk_frozen BK1113.out 2
        go_wp2
        go_meet
        case rel => exact ⟨_, (false), rs, H', ⟨by first | omega | exact Nat.le_refl _⟩, kf, kf, ⟨bz⟩⟩
 case rest =>
  clear HC3
  try clear c1
  try clear p2
  try clear c6
  try clear c7
  try clear c9
  try clear c9b0
  try clear c10
  try clear c12
  try clear c12b0
  try clear c12b1
  try clear c13
  try clear c13b0
  try clear c14
  try clear c16
  try clear c18
  try clear hcz11_0
  try clear hcz11_1
  try clear hcz11_2
  try clear hcz15_0
  try clear hcz15_1
  try clear hcz15_2
  try clear hcz17_0
  try clear hcz17_1
  try clear hcz17_2
  try clear hcz19_0
  try clear hcz19_1
  try clear hcz19_2
  try clear hcz8_0
  try clear hcz8_1
  try clear hcz8_2
  try clear hfz11_0
  try clear hfz11_1
  try clear hfz11_2
  try clear hfz15_0
  try clear hfz15_1
  try clear hfz15_2
  try clear hfz17_0
  try clear hfz17_1
  try clear hfz17_2
  try clear hfz19_0
  try clear hfz19_1
  try clear hfz19_2
  try clear hfz8_0
  try clear hfz8_1
  try clear hfz8_2
  obtain ⟨kq, x27_2, rfl, HA, HJ2, BK1113, BK1114, HB⟩ := hcut
  cases kq with
  | zero => exact absurd HA.out (by simp [tumblerref02_Signed.j0])
  | succ kj2 =>
   have H := HA.out; clear HA
   simp only [tumblerref02_Signed.j0] at H
   by_cases c20 : x27_2 = true
   · subst c20
     have H1 : (some (0, 0, false)) = some (r1, r2, r3) := by rw [if_pos rfl] at H; exact H
     clear H; have H := H1; clear H1
     simp only [Option.some.injEq, Prod.mk.injEq] at H
     obtain ⟨rfl, rfl, rfl⟩ := H
     have hnb21 := NB1114_1113.out; have hnc21 := NB1113_1114.out; have hcz22_0 : wc.cell? ⟨gb1114, 0, none⟩ = some (.int .i64 0) := bc BK1114 0; have hcz22_1 : wc.cell? ⟨gb1114, 1, none⟩ = some (.int .u64 0) := bc BK1114 1; have hfz22_0 := blk_frozen BK1114.out 0; have hfz22_1 := blk_frozen BK1114.out 1
     go_wp2
     refine bodyPost_ret (results_ct rfl _ _ gb1114 24 #[.int .i64 0, .int .u64 0] (0, 0) _ rfl (blk_put (blk_put BK1114.out 0 _ rfl) 1 _ rfl) Tryd.underlying24 rfl (by kernel_rfl)) rfl ?_
     exact ⟨rg, bz⟩
   · replace c20 := Bool.eq_false_iff.mpr c20
     subst c20
     have H1 : (if a1 = true then ((tumblerref02_Plus.f (Go.bits .xor .u64 18446744073709551615 a0_0) (Go.bits .xor .u64 18446744073709551615 a0_1) false 0 1 false).bind fun bt1115 => (some (wrap64 (bt1115.1), bt1115.2.1, true))) else (some (wrap64 (a0_0), a0_1, true))) = some (r1, r2, r3) := by rw [if_neg (show ¬ (false = true) by decide)] at H; exact H
     clear H; have H := H1; clear H1
     by_cases c23 : a1 = true
     · subst c23
       have H1 : ((tumblerref02_Plus.f (Go.bits .xor .u64 18446744073709551615 a0_0) (Go.bits .xor .u64 18446744073709551615 a0_1) false 0 1 false).bind fun bt1115 => (some (wrap64 (bt1115.1), bt1115.2.1, true))) = some (r1, r2, r3) := by rw [if_pos rfl] at H; exact H
       clear H; have H := H1; clear H1
       replace H := Option.bind_eq_some_iff.mp H
       obtain ⟨⟨t1115, t1116, t1117⟩, A240, H⟩ := H
       replace H : (some (wrap64 (t1115), t1116, true)) = some (r1, r2, r3) := H
       have A24 := Aside0.mk A240; clear A240
       simp only [Option.some.injEq, Prod.mk.injEq] at H
       obtain ⟨rfl, rfl, rfl⟩ := H
       have hnb25 := NB1113_1114.out; have hnc25 := NB1114_1113.out; have hcz26_0 : wc.cell? ⟨gb1113, 0, none⟩ = some (.int .u64 a0_0) := bc BK1113 0; have hcz26_1 : wc.cell? ⟨gb1113, 1, none⟩ = some (.int .u64 a0_1) := bc BK1113 1; have hcz26_2 : wc.cell? ⟨gb1113, 2, none⟩ = some (.bool a0_2) := bc BK1113 2; have hfz26_0 := blk_frozen BK1113.out 0; have hfz26_1 := blk_frozen BK1113.out 1; have hfz26_2 := blk_frozen BK1113.out 2
       go_wp2_with (first | ((with_reducible refine gate_callee (f := 113) rfl ?_); refine goesL_ (some 45) rfl rfl Tryd.func113 (by kernel_rfl) rfl #[.agg #[.int .u64 (Go.bits .xor .u64 18446744073709551615 a0_0), .int .u64 (Go.bits .xor .u64 18446744073709551615 a0_1), .bool false], .agg #[.int .u64 0, .int .u64 1, .bool false]] rfl rf ?_; (with_reducible refine (tumblerref02_Plus.calls (Go.bits .xor .u64 18446744073709551615 a0_0) (Go.bits .xor .u64 18446744073709551615 a0_1) false 0 1 false t1115 t1116 t1117 _ A24.out).mono ?_); rintro e w27 ⟨rfl, hb⟩; refine ⟨_, rfl, ?_⟩; replace BK1113 := am (bb BK1113 hb); replace BK1114 := am (bb BK1114 hb); replace HB := am (below_step bz hb); (try clear hb); (try clear hb2); (try clear hk); (try clear hi)) | ((with_reducible refine gate_dst (N := 6) rfl ?_); refine box_event (by rfl) (N := 6) (by rfl) (cs := #[.int .u64 0, .int .u64 0, .bool false]) (t := 93) (by go_simp <;> rfl) ?_; intro gb1118 hg w28 hbox hb; have BK1118 := am (hbox); have GW1118 := gw w hg; replace HB := am (below_step bz hb); have NB1113_1118 := nl BK1113 hg; have NB1118_1113 := nr BK1113 hg; replace BK1113 := am (bb BK1113 hb); have NB1114_1118 := nl BK1114 hg; have NB1118_1114 := nr BK1114 hg; replace BK1114 := am (bb BK1114 hb); clear hb hbox hg; have hnb29 := NB1118_1113.out; have hnc29 := NB1113_1118.out; have hnb30 := NB1118_1114.out; have hnc30 := NB1114_1118.out; have hcz31_0 : w28.cell? ⟨gb1118, 0, none⟩ = some (.int .u64 0) := bc BK1118 0; have hcz31_1 : w28.cell? ⟨gb1118, 1, none⟩ = some (.int .u64 0) := bc BK1118 1; have hcz31_2 : w28.cell? ⟨gb1118, 2, none⟩ = some (.bool false) := bc BK1118 2; have hfz31_0 := blk_frozen BK1118.out 0; have hfz31_1 := blk_frozen BK1118.out 1; have hfz31_2 := blk_frozen BK1118.out 2; have hcz32_0 : w28.cell? ⟨gb1114, 0, none⟩ = some (.int .i64 0) := bc BK1114 0; have hcz32_1 : w28.cell? ⟨gb1114, 1, none⟩ = some (.int .u64 0) := bc BK1114 1; have hfz32_0 := blk_frozen BK1114.out 0; have hfz32_1 := blk_frozen BK1114.out 1))
       refine bodyPost_ret (results_ct rfl _ _ gb1114 24 #[.int .i64 (wrap64 (t1115)), .int .u64 t1116] (0, 0) _ rfl (blk_put (blk_put (blk_far (blk_far (blk_far BK1114.out NB1114_1118.out _) NB1114_1118.out _) NB1114_1118.out _) 0 _ rfl) 1 _ rfl) Tryd.underlying24 rfl (by kernel_rfl)) rfl ?_
       exact ⟨rg, bz⟩
     · replace c23 := Bool.eq_false_iff.mpr c23
       subst c23
       have H1 : (some (wrap64 (a0_0), a0_1, true)) = some (r1, r2, r3) := by rw [if_neg (show ¬ (false = true) by decide)] at H; exact H
       clear H; have H := H1; clear H1
       simp only [Option.some.injEq, Prod.mk.injEq] at H
       obtain ⟨rfl, rfl, rfl⟩ := H
       have hnb33 := NB1113_1114.out; have hnc33 := NB1114_1113.out; have hcz34_0 : wc.cell? ⟨gb1113, 0, none⟩ = some (.int .u64 a0_0) := bc BK1113 0; have hcz34_1 : wc.cell? ⟨gb1113, 1, none⟩ = some (.int .u64 a0_1) := bc BK1113 1; have hcz34_2 : wc.cell? ⟨gb1113, 2, none⟩ = some (.bool a0_2) := bc BK1113 2; have hfz34_0 := blk_frozen BK1113.out 0; have hfz34_1 := blk_frozen BK1113.out 1; have hfz34_2 := blk_frozen BK1113.out 2; have hcz35_0 : wc.cell? ⟨gb1114, 0, none⟩ = some (.int .i64 0) := bc BK1114 0; have hcz35_1 : wc.cell? ⟨gb1114, 1, none⟩ = some (.int .u64 0) := bc BK1114 1; have hfz35_0 := blk_frozen BK1114.out 0; have hfz35_1 := blk_frozen BK1114.out 1
       go_wp2
       refine bodyPost_ret (results_ct rfl _ _ gb1114 24 #[.int .i64 (wrap64 (a0_0)), .int .u64 a0_1] (0, 0) _ rfl (blk_put (blk_put BK1114.out 0 _ rfl) 1 _ rfl) Tryd.underlying24 rfl (by kernel_rfl)) rfl ?_
       exact ⟨rg, bz⟩

end Go.Proofs.YtcfhmbhlibhlnaaDoor.P
