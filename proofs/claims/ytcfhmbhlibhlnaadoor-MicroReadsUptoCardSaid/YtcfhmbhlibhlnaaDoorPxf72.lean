-- Printed by this session's own pp.py (wip/tool) out of the translation.
import Derived.Test.YtcfhmbhlibhlnaaDoorPx0
namespace Go.Proofs.YtcfhmbhlibhlnaaDoor.P
open Go.RowKit Go.Proofs.YtcfhmbhlibhlnaaDoorW.PrintWords Go.Proofs.YtcfhmbhlibhlnaaDoorW.PrintLast Go.Proofs.YtcfhmbhlibhlnaaDoorW.PrintMore Go.Proofs.YtcfhmbhlibhlnaaDoor.Mine
attribute [local go_sem] ext71 ext79 eqA61 eqA62
attribute [local go_sem] max2_int min2_int max_two min_two max_three min_three max_four min_four   -- for this text's walks alone
set_option linter.unusedVariables false
set_option linter.unusedSimpArgs false

/-! ### wide_signed: function 72 -/
def wide_signed.j0 : Nat → Int → Int → Bool → Option (Int × Int × Int)
 | 0, _, _, _ => none
 | k + 1, x6, x8, x36 => if x36 = true then (some (0, 0, 10)) else (some (wrap64 (x8), x6, 0))
def wide_signed.f (k : Nat) (a0_0 : Int) (a0_1 : Int) (a1 : Bool) : Option (Int × Int × Int) := if a1 = true then (if (subHi 0 a0_0 0) ≤ 1 then (if a0_1 > 9223372036854775808 then (wide_signed.j0 k (subLo 0 a0_0 0) (subLo 0 a0_1 (subHi 0 a0_0 0)) true) else (if a0_1 = 9223372036854775808 then (wide_signed.j0 k (subLo 0 a0_0 0) (subLo 0 a0_1 (subHi 0 a0_0 0)) (decide (a0_0 > 0))) else (wide_signed.j0 k (subLo 0 a0_0 0) (subLo 0 a0_1 (subHi 0 a0_0 0)) false))) else (none)) else (if a0_1 ≥ 9223372036854775808 then (some (0, 0, 10)) else (some (wrap64 (a0_1), a0_0, 0)))
theorem wide_signed.mono_l : ∀ k, (∀ y0 y1 y2, LeO (wide_signed.j0 k y0 y1 y2) (wide_signed.j0 (k + 1) y0 y1 y2))
 | 0 => fun _ _ _ r h => by simp [wide_signed.j0] at h
 | k + 1 => by
  have ih0 := wide_signed.mono_l k
  · intro y0 y1 y2
    unfold wide_signed.j0
    repeat' first
    | (with_reducible exact ih0 _ _ _)
    | (with_reducible exact LeO.refl _)
    | (with_reducible exact LeO.none _)
    | (with_reducible refine LeO.ite ?_ ?_)
    | (with_reducible refine LeO.bind ?_ (fun _ => ?_))
    | exact ih0 _ _ _
    | exact LeO.none _
    | refine LeO.ite ?_ ?_
    | refine LeO.bind ?_ (fun _ => ?_)
theorem wide_signed.mono : ∀ a0 a1 a2 k, LeO (wide_signed.f k a0 a1 a2) (wide_signed.f (k + 1) a0 a1 a2) := by
 intro a0 a1 a2 k; have ih0 := wide_signed.mono_l k
 unfold wide_signed.f
 repeat' first
  | (with_reducible exact ih0 _ _ _)
  | (with_reducible exact LeO.refl _)
  | (with_reducible exact LeO.none _)
  | (with_reducible refine LeO.ite ?_ ?_)
  | (with_reducible refine LeO.bind ?_ (fun _ => ?_))
  | exact ih0 _ _ _
  | exact LeO.none _
  | refine LeO.ite ?_ ?_
  | refine LeO.bind ?_ (fun _ => ?_)
set_option maxHeartbeats 8000000 in
set_option maxRecDepth 100000 in
theorem wide_signed.calls (k : Nat) (a0_0 : Int) (a0_1 : Int) (a1 : Bool) (r1 : Int) (r2 : Int) (r3 : Int) (w : World) (h : wide_signed.f k a0_0 a0_1 a1 = some (r1, r2, r3)) :
 Calls Tryd.prog 72 #[.agg #[.int .u64 a0_0, .int .u64 a0_1], .bool a1] w fun e w' => e = .returned (.tuple #[.agg #[.int .i64 r1, .int .u64 r2], .int .i64 r3]) ∧ Below w.heap.size w w' := by
 have hu62 := Tryd.underlying62; have hu24 := Tryd.underlying24; have HB := am (Below.refl w.heap.size w); have H : (if a1 = true then (if (subHi 0 a0_0 0) ≤ 1 then (if a0_1 > 9223372036854775808 then (wide_signed.j0 k (subLo 0 a0_0 0) (subLo 0 a0_1 (subHi 0 a0_0 0)) true) else (if a0_1 = 9223372036854775808 then (wide_signed.j0 k (subLo 0 a0_0 0) (subLo 0 a0_1 (subHi 0 a0_0 0)) (decide (a0_0 > 0))) else (wide_signed.j0 k (subLo 0 a0_0 0) (subLo 0 a0_1 (subHi 0 a0_0 0)) false))) else (none)) else (if a0_1 ≥ 9223372036854775808 then (some (0, 0, 10)) else (some (wrap64 (a0_1), a0_0, 0)))) = some (r1, r2, r3) := h; clear h
 by_cases c3 : a1 = true
 · subst c3
   have H1 : (if (subHi 0 a0_0 0) ≤ 1 then (if a0_1 > 9223372036854775808 then (wide_signed.j0 k (subLo 0 a0_0 0) (subLo 0 a0_1 (subHi 0 a0_0 0)) true) else (if a0_1 = 9223372036854775808 then (wide_signed.j0 k (subLo 0 a0_0 0) (subLo 0 a0_1 (subHi 0 a0_0 0)) (decide (a0_0 > 0))) else (wide_signed.j0 k (subLo 0 a0_0 0) (subLo 0 a0_1 (subHi 0 a0_0 0)) false))) else (none)) = some (r1, r2, r3) := by rw [if_pos rfl] at H; exact H
   clear H; have H := H1; clear H1
   by_cases c4 : (subHi 0 a0_0 0) ≤ 1
   · rw [if_pos c4] at H
     have c4b0 := eq_true c4; have c4b1 : decide ((subHi 0 a0_0 0) ≤ 1) = true := decide_eq_true c4; clear c4; have HC5 := Aside0.mk H; clear H
     go_enter Tryd.func72, Tryd.ntmps72
     go_upto_region 4 with (first | ((with_reducible refine gate_dst (N := 2) rfl ?_); refine box_event (by rfl) (N := 2) (by rfl) (cs := #[.int .u64 a0_0, .int .u64 a0_1]) (t := 62) (by go_simp <;> rfl) ?_; intro gb165 hg w6 hbox hb; have BK165 := am (hbox); have GW165 := gw w hg; replace HB := am (below_step bz hb); clear hb hbox hg) | ((with_reducible refine gate_dst (N := 4) rfl ?_); refine box_event (by rfl) (N := 4) (by rfl) (cs := #[.int .i64 0, .int .u64 0]) (t := 24) (by go_simp <;> rfl) ?_; intro gb166 hg w7 hbox hb; have BK166 := am (hbox); have GW166 := gw w hg; replace HB := am (below_step bz hb); have NB165_166 := nl BK165 hg; have NB166_165 := nr BK165 hg; replace BK165 := am (bb BK165 hb); clear hb hbox hg; have hnb8 := NB165_166.out; have hnc8 := NB166_165.out; have hcz9_0 : w7.cell? ⟨gb165, 0, none⟩ = some (.int .u64 a0_0) := bc BK165 0; have hcz9_1 : w7.cell? ⟨gb165, 1, none⟩ = some (.int .u64 a0_1) := bc BK165 1; have hfz9_0 := blk_frozen BK165.out 0; have hfz9_1 := blk_frozen BK165.out 1))
     (try simp only [Act.put, List.setIfInBounds_toArray, List.set_cons_zero, List.set_cons_succ])
     go_cut [36] (fun v36 wc => ∃ (kq : Nat) (x36_4 : Bool), v36 = .bool x36_4 ∧ Aside0 (wide_signed.j0 kq (subLo 0 a0_0 0) (subLo 0 a0_1 (subHi 0 a0_0 0)) x36_4 = some (r1, r2, r3)) ∧ Aside0 (kq ≤ k) ∧ Aside0 (wc.heap[gb165]? = some (.cells #[.int .u64 a0_0, .int .u64 a0_1] 62 (0, 0))) ∧ Aside0 (wc.heap[gb166]? = some (.cells #[.int .i64 0, .int .u64 0] 24 (0, 0))) ∧ Aside0 (Below w.heap.size w wc))
     case first =>
      have H := HC5.out; clear HC5
      by_cases c10 : a0_1 > 9223372036854775808
      · rw [if_pos c10] at H
        have c10b0 : decide (9223372036854775808 < a0_1) = true := decide_eq_true c10; clear c10
        (first | rw [c10b0] | (simp only [i64_w, i32_w]; rw [c10b0]) | skip)
        have H' := Aside0.mk H; clear H; have hnb11 := NB165_166.out; have hnc11 := NB166_165.out; have hcz12_0 : w7.cell? ⟨gb165, 0, none⟩ = some (.int .u64 a0_0) := bc BK165 0; have hcz12_1 : w7.cell? ⟨gb165, 1, none⟩ = some (.int .u64 a0_1) := bc BK165 1; have hfz12_0 := blk_frozen BK165.out 0; have hfz12_1 := blk_frozen BK165.out 1
        go_wp2
        go_meet
        case rel => exact ⟨_, (true), rs, H', ⟨by first | omega | exact Nat.le_refl _⟩, kf, kf, ⟨bz⟩⟩
      · rw [if_neg c10] at H
        have c10b0 : decide (9223372036854775808 < a0_1) = false := decide_eq_false c10; clear c10
        (first | rw [c10b0] | (simp only [i64_w, i32_w]; rw [c10b0]) | skip)
        by_cases c13 : a0_1 = 9223372036854775808
        · rw [if_pos c13] at H
          have c13b0 : (a0_1 == 9223372036854775808) = true := beq_iff_eq.mpr c13; have c13b1 : (a0_1 != 9223372036854775808) = false := bne_eq_false_iff_eq.mpr c13; clear c13; have H' := Aside0.mk H; clear H; have hnb14 := NB165_166.out; have hnc14 := NB166_165.out; have hcz15_0 : w7.cell? ⟨gb165, 0, none⟩ = some (.int .u64 a0_0) := bc BK165 0; have hcz15_1 : w7.cell? ⟨gb165, 1, none⟩ = some (.int .u64 a0_1) := bc BK165 1; have hfz15_0 := blk_frozen BK165.out 0; have hfz15_1 := blk_frozen BK165.out 1
          go_wp2
          go_meet
          case rel => exact ⟨_, (decide (a0_0 > 0)), rs, H', ⟨by first | omega | exact Nat.le_refl _⟩, kf, kf, ⟨bz⟩⟩
        · rw [if_neg c13] at H
          have c13b0 : (a0_1 == 9223372036854775808) = false := beq_eq_false_iff_ne.mpr c13; have c13b1 : (a0_1 != 9223372036854775808) = true := bne_iff_ne.mpr c13; have H' := Aside0.mk H; clear H; have hnb16 := NB165_166.out; have hnc16 := NB166_165.out; have hcz17_0 : w7.cell? ⟨gb165, 0, none⟩ = some (.int .u64 a0_0) := bc BK165 0; have hcz17_1 : w7.cell? ⟨gb165, 1, none⟩ = some (.int .u64 a0_1) := bc BK165 1; have hfz17_0 := blk_frozen BK165.out 0; have hfz17_1 := blk_frozen BK165.out 1
          go_wp2
          go_meet
          case rel => exact ⟨_, (false), rs, H', ⟨by first | omega | exact Nat.le_refl _⟩, kf, kf, ⟨bz⟩⟩
     case rest =>
      clear HC5
      try clear c1
      try clear p2
      try clear c3
      try clear c4
      try clear c4b0
      try clear c4b1
      try clear p6
      try clear c7
      try clear c8
      try clear c10
      try clear c10b0
      try clear c11
      try clear c13
      try clear c13b0
      try clear c13b1
      try clear c14
      try clear c16
      try clear hcz12_0
      try clear hcz12_1
      try clear hcz15_0
      try clear hcz15_1
      try clear hcz17_0
      try clear hcz17_1
      try clear hcz9_0
      try clear hcz9_1
      try clear hfz12_0
      try clear hfz12_1
      try clear hfz15_0
      try clear hfz15_1
      try clear hfz17_0
      try clear hfz17_1
      try clear hfz9_0
      try clear hfz9_1
      obtain ⟨kq, x36_4, rfl, HA, HJ4, BK165, BK166, HB⟩ := hcut
      cases kq with
      | zero => exact absurd HA.out (by simp [wide_signed.j0])
      | succ kj4 =>
       have H := HA.out; clear HA
       simp only [wide_signed.j0] at H
       by_cases c18 : x36_4 = true
       · subst c18
         have H1 : (some (0, 0, 10)) = some (r1, r2, r3) := by rw [if_pos rfl] at H; exact H
         clear H; have H := H1; clear H1
         simp only [Option.some.injEq, Prod.mk.injEq] at H
         obtain ⟨rfl, rfl, rfl⟩ := H
         have hnb19 := NB166_165.out; have hnc19 := NB165_166.out; have hcz20_0 : wc.cell? ⟨gb166, 0, none⟩ = some (.int .i64 0) := bc BK166 0; have hcz20_1 : wc.cell? ⟨gb166, 1, none⟩ = some (.int .u64 0) := bc BK166 1; have hfz20_0 := blk_frozen BK166.out 0; have hfz20_1 := blk_frozen BK166.out 1
         go_wp2
         refine bodyPost_ret (results_ct rfl _ _ gb166 24 #[.int .i64 0, .int .u64 0] (0, 0) _ rfl (blk_put (blk_put BK166.out 0 _ rfl) 1 _ rfl) Tryd.underlying24 rfl (by kernel_rfl)) rfl ?_
         exact ⟨rg, bz⟩
       · replace c18 := Bool.eq_false_iff.mpr c18
         subst c18
         have H1 : (some (wrap64 ((subLo 0 a0_1 (subHi 0 a0_0 0))), (subLo 0 a0_0 0), 0)) = some (r1, r2, r3) := by rw [if_neg (show ¬ (false = true) by decide)] at H; exact H
         clear H; have H := H1; clear H1
         simp only [Option.some.injEq, Prod.mk.injEq] at H
         obtain ⟨rfl, rfl, rfl⟩ := H
         have hnb21 := NB166_165.out; have hnc21 := NB165_166.out; have hcz22_0 : wc.cell? ⟨gb166, 0, none⟩ = some (.int .i64 0) := bc BK166 0; have hcz22_1 : wc.cell? ⟨gb166, 1, none⟩ = some (.int .u64 0) := bc BK166 1; have hfz22_0 := blk_frozen BK166.out 0; have hfz22_1 := blk_frozen BK166.out 1
         go_wp2
         refine bodyPost_ret (results_ct rfl _ _ gb166 24 #[.int .i64 (wrap64 ((subLo 0 a0_1 (subHi 0 a0_0 0)))), .int .u64 (subLo 0 a0_0 0)] (0, 0) _ rfl (blk_put (blk_put BK166.out 0 _ rfl) 1 _ rfl) Tryd.underlying24 rfl (by kernel_rfl)) rfl ?_
         exact ⟨rg, bz⟩
   · rw [if_neg c4] at H
     exact absurd H (by simp)
 · replace c3 := Bool.eq_false_iff.mpr c3
   subst c3
   have H1 : (if a0_1 ≥ 9223372036854775808 then (some (0, 0, 10)) else (some (wrap64 (a0_1), a0_0, 0))) = some (r1, r2, r3) := by rw [if_neg (show ¬ (false = true) by decide)] at H; exact H
   clear H; have H := H1; clear H1
   by_cases c23 : a0_1 ≥ 9223372036854775808
   · rw [if_pos c23] at H
     have c23b0 : decide (9223372036854775808 ≤ a0_1) = true := decide_eq_true c23; clear c23
     simp only [Option.some.injEq, Prod.mk.injEq] at H
     obtain ⟨rfl, rfl, rfl⟩ := H
     go_enter Tryd.func72, Tryd.ntmps72
     go_wp2_with (first | ((with_reducible refine gate_dst (N := 2) rfl ?_); refine box_event (by rfl) (N := 2) (by rfl) (cs := #[.int .u64 a0_0, .int .u64 a0_1]) (t := 62) (by go_simp <;> rfl) ?_; intro gb165 hg w24 hbox hb; have BK165 := am (hbox); have GW165 := gw w hg; replace HB := am (below_step bz hb); clear hb hbox hg) | ((with_reducible refine gate_dst (N := 4) rfl ?_); refine box_event (by rfl) (N := 4) (by rfl) (cs := #[.int .i64 0, .int .u64 0]) (t := 24) (by go_simp <;> rfl) ?_; intro gb166 hg w25 hbox hb; have BK166 := am (hbox); have GW166 := gw w hg; replace HB := am (below_step bz hb); have NB165_166 := nl BK165 hg; have NB166_165 := nr BK165 hg; replace BK165 := am (bb BK165 hb); clear hb hbox hg; have hnb26 := NB165_166.out; have hnc26 := NB166_165.out; have hcz27_0 : w25.cell? ⟨gb165, 0, none⟩ = some (.int .u64 a0_0) := bc BK165 0; have hcz27_1 : w25.cell? ⟨gb165, 1, none⟩ = some (.int .u64 a0_1) := bc BK165 1; have hfz27_0 := blk_frozen BK165.out 0; have hfz27_1 := blk_frozen BK165.out 1; have hcz28_0 : w25.cell? ⟨gb166, 0, none⟩ = some (.int .i64 0) := bc BK166 0; have hcz28_1 : w25.cell? ⟨gb166, 1, none⟩ = some (.int .u64 0) := bc BK166 1; have hfz28_0 := blk_frozen BK166.out 0; have hfz28_1 := blk_frozen BK166.out 1))
     refine bodyPost_ret (results_ct rfl _ _ gb166 24 #[.int .i64 0, .int .u64 0] (0, 0) _ rfl (blk_put (blk_put BK166.out 0 _ rfl) 1 _ rfl) Tryd.underlying24 rfl (by kernel_rfl)) rfl ?_
     exact ⟨rg, bz⟩
   · rw [if_neg c23] at H
     have c23b0 : decide (9223372036854775808 ≤ a0_1) = false := decide_eq_false c23; clear c23
     simp only [Option.some.injEq, Prod.mk.injEq] at H
     obtain ⟨rfl, rfl, rfl⟩ := H
     go_enter Tryd.func72, Tryd.ntmps72
     go_wp2_with (first | ((with_reducible refine gate_dst (N := 2) rfl ?_); refine box_event (by rfl) (N := 2) (by rfl) (cs := #[.int .u64 a0_0, .int .u64 a0_1]) (t := 62) (by go_simp <;> rfl) ?_; intro gb165 hg w29 hbox hb; have BK165 := am (hbox); have GW165 := gw w hg; replace HB := am (below_step bz hb); clear hb hbox hg) | ((with_reducible refine gate_dst (N := 4) rfl ?_); refine box_event (by rfl) (N := 4) (by rfl) (cs := #[.int .i64 0, .int .u64 0]) (t := 24) (by go_simp <;> rfl) ?_; intro gb166 hg w30 hbox hb; have BK166 := am (hbox); have GW166 := gw w hg; replace HB := am (below_step bz hb); have NB165_166 := nl BK165 hg; have NB166_165 := nr BK165 hg; replace BK165 := am (bb BK165 hb); clear hb hbox hg; have hnb31 := NB165_166.out; have hnc31 := NB166_165.out; have hcz32_0 : w30.cell? ⟨gb165, 0, none⟩ = some (.int .u64 a0_0) := bc BK165 0; have hcz32_1 : w30.cell? ⟨gb165, 1, none⟩ = some (.int .u64 a0_1) := bc BK165 1; have hfz32_0 := blk_frozen BK165.out 0; have hfz32_1 := blk_frozen BK165.out 1; have hcz33_0 : w30.cell? ⟨gb166, 0, none⟩ = some (.int .i64 0) := bc BK166 0; have hcz33_1 : w30.cell? ⟨gb166, 1, none⟩ = some (.int .u64 0) := bc BK166 1; have hfz33_0 := blk_frozen BK166.out 0; have hfz33_1 := blk_frozen BK166.out 1))
     refine bodyPost_ret (results_ct rfl _ _ gb166 24 #[.int .i64 (wrap64 (a0_1)), .int .u64 a0_0] (0, 0) _ rfl (blk_put (blk_put BK166.out 0 _ rfl) 1 _ rfl) Tryd.underlying24 rfl (by kernel_rfl)) rfl ?_
     exact ⟨rg, bz⟩

end Go.Proofs.YtcfhmbhlibhlnaaDoor.P
