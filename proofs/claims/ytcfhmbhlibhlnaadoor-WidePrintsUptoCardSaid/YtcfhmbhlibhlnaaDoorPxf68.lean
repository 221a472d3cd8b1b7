-- Printed by this session's own pp.py (wip/tool) out of the translation.
import Derived.Test.YtcfhmbhlibhlnaaDoorPx0
import Derived.Test.YtcfhmbhlibhlnaaDoorPxf103
namespace Go.Proofs.YtcfhmbhlibhlnaaDoor.P
open Go.RowKit Go.Proofs.YtcfhmbhlibhlnaaDoorW.PrintWords Go.Proofs.YtcfhmbhlibhlnaaDoorW.PrintLast Go.Proofs.YtcfhmbhlibhlnaaDoorW.PrintMore Go.Proofs.YtcfhmbhlibhlnaaDoor.Mine
attribute [local go_sem] ext71 ext79 eqA61 eqA62
attribute [local go_sem] max2_int min2_int max_two min_two max_three min_three max_four min_four   -- for this text's walks alone
set_option linter.unusedVariables false
set_option linter.unusedSimpArgs false

/-! ### tumblerref01_PrintN: function 68 -/
mutual
def tumblerref01_PrintN.l0 : Nat → ByteArray → List Int → Bool → List Int → Option (ByteArray)
 | 0, _, _, _, _ => none
 | k + 1, x3, x4, x129000, x129001 => if (x4.length : Int) > 0 then (if 0 ≤ (x4.length : Int) then (if ((x4.length : Int) : Int).toNat ≤ 70368744177664 then (tumblerref01_PrintN.l1 k x3 x4 (List.replicate ((x4.length : Int) : Int).toNat 0) 0 (wrap64 ((x4.length : Int) - 1)) x129000 x129001) else (none)) else (none)) else (if x129000 = true then (if 1 + x3.size ≤ 9223372036854775807 then (some ((⟨#[45]⟩ : ByteArray) ++ x3)) else (none)) else (some x3))
def tumblerref01_PrintN.l1 : Nat → ByteArray → List Int → List Int → Int → Int → Bool → List Int → Option (ByteArray)
 | 0, _, _, _, _, _, _, _ => none
 | k + 1, x3, x4, x5, x6, x7, x129000, x129001 => if x7 ≥ 0 then (if 0 ≤ x7 then (if x7 < (x4.length : Int) then (if x7 < (x5.length : Int) then (tumblerref01_PrintN.l1 k x3 x4 (x5.set (x7 : Int).toNat (((((x6 * 65536) % 4294967296) + (rd x4 x7)) % 4294967296) / 10)) (((((x6 * 65536) % 4294967296) + (rd x4 x7)) % 4294967296) % 10) (wrap64 (x7 - 1)) x129000 x129001) else (none)) else (none)) else (none)) else ((some (([((48 + x6) % 4294967296) % 256] : List Int) : List Int)).bind fun y134 => (if (strOfNums y134).size + x3.size ≤ 9223372036854775807 then ((tumblerref01_trim.f k x5).bind fun t137 => (tumblerref01_PrintN.l0 k ((strOfNums y134) ++ x3) t137 x129000 x129001)) else (none)))
end
def tumblerref01_PrintN.f (k : Nat) (a0_0 : Bool) (l0_1 : List Int) : Option (ByteArray) := if (l0_1.length : Int) = 0 then (some (⟨#[48]⟩ : ByteArray)) else (tumblerref01_PrintN.l0 k (⟨#[]⟩ : ByteArray) l0_1 a0_0 l0_1)
theorem tumblerref01_PrintN.mono_l : ∀ k, (∀ y0 y1 y2 y3, LeO (tumblerref01_PrintN.l0 k y0 y1 y2 y3) (tumblerref01_PrintN.l0 (k + 1) y0 y1 y2 y3)) ∧ (∀ y0 y1 y2 y3 y4 y5 y6, LeO (tumblerref01_PrintN.l1 k y0 y1 y2 y3 y4 y5 y6) (tumblerref01_PrintN.l1 (k + 1) y0 y1 y2 y3 y4 y5 y6))
 | 0 => ⟨fun _ _ _ _ r h => by simp [tumblerref01_PrintN.l0] at h, fun _ _ _ _ _ _ _ r h => by simp [tumblerref01_PrintN.l1] at h⟩
 | k + 1 => by
  obtain ⟨ih0, ih1⟩ := tumblerref01_PrintN.mono_l k
  refine ⟨?_, ?_⟩
  · intro y0 y1 y2 y3
    unfold tumblerref01_PrintN.l0
    repeat' first
    | (with_reducible exact ih0 _ _ _ _)
    | (with_reducible exact ih1 _ _ _ _ _ _ _)
    | (with_reducible exact tumblerref01_trim.mono _ _)
    | (with_reducible exact LeO.refl _)
    | (with_reducible exact LeO.none _)
    | (with_reducible refine LeO.ite ?_ ?_)
    | (with_reducible refine LeO.bind ?_ (fun _ => ?_))
    | exact ih0 _ _ _ _
    | exact ih1 _ _ _ _ _ _ _
    | exact tumblerref01_trim.mono _ _
    | exact LeO.none _
    | refine LeO.ite ?_ ?_
    | refine LeO.bind ?_ (fun _ => ?_)
  · intro y0 y1 y2 y3 y4 y5 y6
    unfold tumblerref01_PrintN.l1
    repeat' first
    | (with_reducible exact ih0 _ _ _ _)
    | (with_reducible exact ih1 _ _ _ _ _ _ _)
    | (with_reducible exact tumblerref01_trim.mono _ _)
    | (with_reducible exact LeO.refl _)
    | (with_reducible exact LeO.none _)
    | (with_reducible refine LeO.ite ?_ ?_)
    | (with_reducible refine LeO.bind ?_ (fun _ => ?_))
    | exact ih0 _ _ _ _
    | exact ih1 _ _ _ _ _ _ _
    | exact tumblerref01_trim.mono _ _
    | exact LeO.none _
    | refine LeO.ite ?_ ?_
    | refine LeO.bind ?_ (fun _ => ?_)
theorem tumblerref01_PrintN.mono : ∀ a0 a1 k, LeO (tumblerref01_PrintN.f k a0 a1) (tumblerref01_PrintN.f (k + 1) a0 a1) := by
 intro a0 a1 k
 obtain ⟨ih0, ih1⟩ := tumblerref01_PrintN.mono_l k
 unfold tumblerref01_PrintN.f
 repeat' first
  | (with_reducible exact ih0 _ _ _ _)
  | (with_reducible exact ih1 _ _ _ _ _ _ _)
  | (with_reducible exact tumblerref01_trim.mono _ _)
  | (with_reducible exact LeO.refl _)
  | (with_reducible exact LeO.none _)
  | (with_reducible refine LeO.ite ?_ ?_)
  | (with_reducible refine LeO.bind ?_ (fun _ => ?_))
  | exact ih0 _ _ _ _
  | exact ih1 _ _ _ _ _ _ _
  | exact tumblerref01_trim.mono _ _
  | exact LeO.none _
  | refine LeO.ite ?_ ?_
  | refine LeO.bind ?_ (fun _ => ?_)
set_option maxHeartbeats 8000000 in
set_option maxRecDepth 100000 in
theorem tumblerref01_PrintN.calls (k : Nat) (a0_0 : Bool) (P0_1_ : Nat → Prop) (A0_1 : Option Addr) (c0_1 : Nat) (l0_1 : List Int) (r : ByteArray) (w : World) (hs0_1 : Kd.V (Kd.int .u32) 121 w w.heap.size (fun k_ => P0_1_ k_) (.slice A0_1 l0_1.length c0_1) l0_1) (h : tumblerref01_PrintN.f k a0_0 l0_1 = some r) :
 Calls Tryd.prog 68 #[.agg #[.bool a0_0, .slice A0_1 l0_1.length c0_1]] w fun e w' => e = .returned (.string r) ∧ Below w.heap.size w w' := by
 have hu71 := Tryd.underlying71; have HO0_1 := am (show Kd.V (Kd.int .u32) 121 w w.heap.size (fun k_ => (P0_1_ k_ ∨ w.heap.size ≤ k_)) (.slice A0_1 l0_1.length c0_1) l0_1 from Kd.V_mono hs0_1 (fun k_ hk => .inl hk)); have HB := am (Below.refl w.heap.size w); have H : (if (l0_1.length : Int) = 0 then (some (⟨#[48]⟩ : ByteArray)) else (tumblerref01_PrintN.l0 k (⟨#[]⟩ : ByteArray) l0_1 a0_0 l0_1)) = some r := h; clear h
 by_cases c2 : (l0_1.length : Int) = 0
 · rw [if_pos c2] at H
   have c2b0 : ((l0_1.length : Int) == 0) = true := beq_iff_eq.mpr c2; have c2b1 : ((l0_1.length : Int) != 0) = false := bne_eq_false_iff_eq.mpr c2; clear c2
   obtain rfl := Option.some.inj H
   go_enter Tryd.func68, Tryd.ntmps68
   go_wp2_with (first | ((with_reducible refine gate_dst (N := 1) rfl ?_); refine box_event ?hg (N := 1) ?hd (cs := #[.bool a0_0, .slice A0_1 l0_1.length c0_1]) (t := 71) ?hr ?_; (case hd => rfl); (case hg => rfl); (case hr => first | (go_simp; done) | (go_simp; rfl)); intro gb128 hg w3 hbox hb; have n0_ := am (Kd.V_below (Kd.V_elderB (by (with_reducible repeat (first | apply Kd.V_alloc | apply Kd.V_drewN | apply Kd.V_drew)); exact HO0_1.out) gb128 (Nat.le_of_eq hg.symm)) hb); have n1_ := am (below_step bz hb); have n2_ := am (hbox); have n3_ := am ((by rw [hg]; exact (below_size bz) : w.heap.size ≤ gb128)); have n4_ := am ((by rw [hg]; exact (below_size bz) : w.heap.size ≤ gb128)); clear HO0_1; clear HB; have HO0_1 := n0_; have HB := n1_; have BK128 := n2_; have GW128 := n3_; have GE128 := n4_; clear n0_ n1_ n2_ n3_ n4_; clear hb hbox hg; have hcz4_0 : w3.cell? ⟨gb128, 0, none⟩ = some (.bool a0_0) := (blk_cell BK128.out 0).trans rfl; have hcz4_1 : w3.cell? ⟨gb128, 1, none⟩ = some (.slice A0_1 l0_1.length c0_1) := (blk_cell BK128.out 1).trans rfl; have hfz4_0 := blk_frozen BK128.out 0; have hfz4_1 := blk_frozen BK128.out 1))
   go_ret
   exact ⟨by first | rfl | (simp [errW_none, errW_some] <;> rfl) | (simp [*, errW_none, errW_some] <;> rfl), by repeat (first | (with_reducible first | exact HB.out | apply dA | apply dB | apply dC | refine dE ?_ ‹_›) | exact HB.out)⟩
 · rw [if_neg c2] at H
   have c2b0 : ((l0_1.length : Int) == 0) = false := beq_eq_false_iff_ne.mpr c2; have c2b1 : ((l0_1.length : Int) != 0) = true := bne_iff_ne.mpr c2
   have c2b2 : ¬ (l0_1 = []) := fun h_ => c2 (by rw [h_]; rfl)
   have H' := Aside0.mk H; clear H
   go_enter Tryd.func68, Tryd.ntmps68
   go_wp2_with (first | ((with_reducible refine gate_dst (N := 1) rfl ?_); refine box_event ?hg (N := 1) ?hd (cs := #[.bool a0_0, .slice A0_1 l0_1.length c0_1]) (t := 71) ?hr ?_; (case hd => rfl); (case hg => rfl); (case hr => first | (go_simp; done) | (go_simp; rfl)); intro gb128 hg w5 hbox hb; have n0_ := am (Kd.V_below (Kd.V_elderB (by (with_reducible repeat (first | apply Kd.V_alloc | apply Kd.V_drewN | apply Kd.V_drew)); exact HO0_1.out) gb128 (Nat.le_of_eq hg.symm)) hb); have n1_ := am (below_step bz hb); have n2_ := am (hbox); have n3_ := am ((by rw [hg]; exact (below_size bz) : w.heap.size ≤ gb128)); have n4_ := am ((by rw [hg]; exact (below_size bz) : w.heap.size ≤ gb128)); clear HO0_1; clear HB; have HO0_1 := n0_; have HB := n1_; have BK128 := n2_; have GW128 := n3_; have GE128 := n4_; clear n0_ n1_ n2_ n3_ n4_; clear hb hbox hg; have hcz6_0 : w5.cell? ⟨gb128, 0, none⟩ = some (.bool a0_0) := (blk_cell BK128.out 0).trans rfl; have hcz6_1 : w5.cell? ⟨gb128, 1, none⟩ = some (.slice A0_1 l0_1.length c0_1) := (blk_cell BK128.out 1).trans rfl; have hfz6_0 := blk_frozen BK128.out 0; have hfz6_1 := blk_frozen BK128.out 1))
   go_loopg [3, 4] k (fun kq v3 v4 w' => ∃ (x3_1 : ByteArray) (x4_1 : List Int) (x129001_1 : List Int) (u129001 : Value), v3 = .string x3_1 ∧ Aside0 (tumblerref01_PrintN.l0 kq x3_1 x4_1 a0_0 x129001_1 = some r) ∧ Aside0 (kq ≤ k) ∧ Aside0 (Kd.V (Kd.int .u32) 121 w' w.heap.size (fun k_ => (P0_1_ k_ ∨ w.heap.size ≤ k_) ∧ k_ ≠ gb128) v4 x4_1) ∧ Aside0 (Kd.V (Kd.int .u32) 121 w' w.heap.size (fun k_ => (P0_1_ k_ ∨ w.heap.size ≤ k_) ∧ k_ ≠ gb128) u129001 x129001_1) ∧ Aside0 (w'.heap[gb128]? = some (.cells #[.bool a0_0, u129001] 71 (0, 0))) ∧ Aside0 (Below w.heap.size w w'))
   case atStart => exact ⟨((⟨#[]⟩ : ByteArray)), (l0_1), (l0_1), (.slice A0_1 l0_1.length c0_1), (by first | rfl | (simp; done) | (simp [*]; done)), H', ⟨Nat.le_refl _⟩, ⟨by (with_reducible repeat (first | apply Kd.V_alloc | apply Kd.V_drewN | apply Kd.V_drew)); exact HO0_1.out⟩, ⟨by (with_reducible repeat (first | apply Kd.V_alloc | apply Kd.V_drewN | apply Kd.V_drew)); exact HO0_1.out⟩, ⟨by (with_reducible repeat (first | apply bA | apply bB | apply bC)); exact BK128.out⟩, ⟨by repeat (first | (with_reducible first | exact HB.out | apply dA | apply dB | apply dC | refine dE ?_ ‹_›) | exact HB.out)⟩⟩
   case round =>
    clear H'
    try clear c2
    try clear c2b0
    try clear c2b1
    try clear c2b2
    try clear p2
    try clear c6
    try clear hcz4_0
    try clear hcz4_1
    try clear hcz6_0
    try clear hcz6_1
    try clear hfz4_0
    try clear hfz4_1
    try clear hfz6_0
    try clear hfz6_1
    obtain ⟨x3_1, x4_1, x129001_1, u129001, rfl, HA, HK1, HO_4, HO_129001, BK128, HB⟩ := hrel
    cases gk with
    | zero => exact absurd HA.out (by simp [tumblerref01_PrintN.l0])
    | succ k1 =>
     have H := HA.out; clear HA
     simp only [tumblerref01_PrintN.l0] at H
     by_cases c7 : (x4_1.length : Int) > 0
     · rw [if_pos c7] at H
       have c7b0 : decide (0 < (x4_1.length : Int)) = true := decide_eq_true c7; have c7b1 : decide (0 < x4_1.length) = true := decide_eq_true (by omega); clear c7
       by_cases c8 : 0 ≤ (x4_1.length : Int)
       · rw [if_pos c8] at H
         have c8b0 := eq_true c8; have c8b1 : decide (0 ≤ (x4_1.length : Int)) = true := decide_eq_true c8; clear c8
         by_cases c9 : ((x4_1.length : Int) : Int).toNat ≤ 70368744177664
         · rw [if_pos c9] at H
           have c9b0 := eq_true c9; have c9b1 : decide (((x4_1.length : Int) : Int).toNat ≤ 70368744177664) = true := decide_eq_true c9; clear c9
           obtain ⟨y129, hy129⟩ : ∃ y_ : List Int, y_ = (List.replicate ((x4_1.length : Int) : Int).toNat 0) := ⟨_, rfl⟩
           replace H : (tumblerref01_PrintN.l1 k1 x3_1 x4_1 y129 0 (wrap64 ((x4_1.length : Int) - 1)) a0_0 x129001_1) = some r := by first | (rw [hy129]; with_reducible exact H) | (have H2_ := (Option.bind_some _ _).symm.trans H; rw [hy129]; with_reducible exact H2_) | (have H2_ := (Option.bind_some _ _).symm.trans H; with_reducible exact H2_) | with_reducible exact H | (rw [hy129]; exact H) | exact H
           have Ny129 := Aside0.mk hy129; clear hy129; have H' := Aside0.mk H; clear H
           obtain ⟨Ao10, co10, eo10⟩ := Kd.V_slice HO_4.out
           subst eo10
           go_wp2_with (first | ((with_reducible refine gate_dst (N := 20) rfl ?_); refine Kd.R_make (Kd.int .u32) _ 121 rfl (N := 20) rfl 69 _ _ rfl (x4_1.length : Int) rfl rfl Tryd.underlying69 (.int .u32 0) 4 info121 rfl (by decide) (by omega) 0 (ok := fun _ => True) (okp := fun _ => True) rfl (fun _ hk => hk) trivial (of_decide_eq_true (by first | (with_reducible assumption) | assumption)) (Nat.le_trans (Nat.mul_le_mul_right _ (of_decide_eq_true (by first | (with_reducible assumption) | assumption) : (x4_1.length : Int).toNat ≤ 70368744177664)) (by omega)) (Below.refl _ _) (Nat.le_refl _) ?_; intro v130 w11 ho12 hb hg_ hnew_; clear hg_ hnew_; (first | rw [← Ny129.out] at ho12 | (simp only [Int.reduceToNat] at ho12; rw [← Ny129.out] at ho12)); have n0_ := am (Kd.V_elder' (by (with_reducible repeat (first | apply Kd.V_alloc | apply Kd.V_drewN | apply Kd.V_drew)); exact HO_4.out) (Kd.R_base ho12) hb); have n1_ := am (Kd.V_elder' (by (with_reducible repeat (first | apply Kd.V_alloc | apply Kd.V_drewN | apply Kd.V_drew)); exact HO_129001.out) (Kd.R_base ho12) hb); have n2_ := am (Kd.R_lower (Kd.R_newM (M := fun k_ => (w.heap.size ≤ k_)) ho12 (below_size bz) (fun k_ h_ => h_)) (below_size bz)); have n3_ := am (bb BK128 hb); have n4_ := am (below_step bz hb); clear HO_4; clear HO_129001; clear BK128; clear HB; have HO_4 := n0_; have HO_129001 := n1_; have HO131 := n2_; have BK128 := n3_; have HB := n4_; clear n0_ n1_ n2_ n3_ n4_; clear hb ho12))
           go_loopg [6, 7] k1 (fun kq v6 v7 w' => ∃ (x5_2 : List Int) (x6_2 : Int) (x7_2 : Int), v6 = .int .u32 x6_2 ∧ v7 = .int .i64 x7_2 ∧ Aside0 (tumblerref01_PrintN.l1 kq x3_1 x4_1 x5_2 x6_2 x7_2 a0_0 x129001_1 = some r) ∧ Aside0 (kq ≤ k1) ∧ Aside0 (Kd.V (Kd.int .u32) 121 w' w.heap.size (fun k_ => (P0_1_ k_ ∨ w.heap.size ≤ k_) ∧ some k_ ≠ (v130 : Value).ownBlock ∧ k_ ≠ gb128) (.slice Ao10 x4_1.length co10) x4_1) ∧ Aside0 (Kd.R (Kd.int .u32) 121 w' w.heap.size (fun k_ => (w.heap.size ≤ k_)) v130 x5_2) ∧ Aside0 (Kd.V (Kd.int .u32) 121 w' w.heap.size (fun k_ => (P0_1_ k_ ∨ w.heap.size ≤ k_) ∧ some k_ ≠ (v130 : Value).ownBlock ∧ k_ ≠ gb128) u129001 x129001_1) ∧ Aside0 (w'.heap[gb128]? = some (.cells #[.bool a0_0, u129001] 71 (0, 0))) ∧ Aside0 (Below w.heap.size w w'))
           case atStart => exact ⟨(y129), (0), (wrap64 ((x4_1.length : Int) - 1)), (by first | rfl | (simp; done) | (simp [*]; done)), (by first | rfl | (simp; done) | (simp [*]; done)), H', ⟨Nat.le_refl _⟩, ⟨by (with_reducible repeat (first | apply Kd.V_alloc | apply Kd.V_drewN | apply Kd.V_drew)); exact Kd.V_mono HO_4.out (fun _ hk => ⟨hk.1.1, ⟨hk.2, hk.1.2⟩⟩)⟩, ⟨by (with_reducible repeat (first | apply Kd.R_alloc | apply Kd.R_drewN | apply Kd.R_drew)); exact Kd.R_mono HO131.out (fun _ hk => hk.1)⟩, ⟨by (with_reducible repeat (first | apply Kd.V_alloc | apply Kd.V_drewN | apply Kd.V_drew)); exact Kd.V_mono HO_129001.out (fun _ hk => ⟨hk.1.1, ⟨hk.2, hk.1.2⟩⟩)⟩, ⟨by (with_reducible repeat (first | apply bA | apply bB | apply bC)); exact BK128.out⟩, ⟨by repeat (first | (with_reducible first | exact HB.out | apply dA | apply dB | apply dC | refine dE ?_ ‹_›) | exact HB.out)⟩⟩
           case round =>
            clear H'
            try clear c2
            try clear c2b0
            try clear c2b1
            try clear c2b2
            try clear p2
            try clear c6
            try clear p6
            try clear c7
            try clear c7b0
            try clear c7b1
            try clear c8
            try clear c8b0
            try clear c8b1
            try clear c9
            try clear c9b0
            try clear c9b1
            try clear hcz4_0
            try clear hcz4_1
            try clear hcz6_0
            try clear hcz6_1
            try clear hfz4_0
            try clear hfz4_1
            try clear hfz6_0
            try clear hfz6_1
            try clear p2
            obtain ⟨x5_2, x6_2, x7_2, rfl, rfl, HA, HK2, HO_4, HO_5, HO_129001, BK128, HB⟩ := hrel
            cases gk with
            | zero => exact absurd HA.out (by simp [tumblerref01_PrintN.l1])
            | succ k2 =>
             have H := HA.out; clear HA
             simp only [tumblerref01_PrintN.l1] at H
             by_cases c13 : x7_2 ≥ 0
             · rw [if_pos c13] at H
               have c13b0 : decide (0 ≤ x7_2) = true := decide_eq_true c13; clear c13
               by_cases c14 : 0 ≤ x7_2
               · rw [if_pos c14] at H
                 have c14b0 : decide (0 ≤ x7_2) = true := decide_eq_true c14; clear c14
                 by_cases c15 : x7_2 < (x4_1.length : Int)
                 · rw [if_pos c15] at H
                   have c15b0 : decide (x7_2 < (x4_1.length : Int)) = true := decide_eq_true c15; clear c15
                   by_cases c16 : x7_2 < (x5_2.length : Int)
                   · rw [if_pos c16] at H
                     have c16b0 : decide (x7_2 < (x5_2.length : Int)) = true := decide_eq_true c16; clear c16
                     obtain ⟨y133, hy133⟩ : ∃ y_ : List Int, y_ = (x5_2.set (x7_2 : Int).toNat (((((x6_2 * 65536) % 4294967296) + (rd x4_1 x7_2)) % 4294967296) / 10)) := ⟨_, rfl⟩
                     replace H : (tumblerref01_PrintN.l1 k2 x3_1 x4_1 y133 (((((x6_2 * 65536) % 4294967296) + (rd x4_1 x7_2)) % 4294967296) % 10) (wrap64 (x7_2 - 1)) a0_0 x129001_1) = some r := by first | (rw [hy133]; with_reducible exact H) | (have H2_ := (Option.bind_some _ _).symm.trans H; rw [hy133]; with_reducible exact H2_) | (have H2_ := (Option.bind_some _ _).symm.trans H; with_reducible exact H2_) | with_reducible exact H | (rw [hy133]; exact H) | exact H
                     have Ny133 := Aside0.mk hy133; clear hy133; have H' := Aside0.mk H; clear H; have p132 : 0 ≤ (x7_2 : Int) := of_decide_eq_true (by first | (with_reducible assumption) | assumption); have q132 : x7_2 < (x4_1.length : Int) := of_decide_eq_true (by first | (with_reducible assumption) | assumption)
                     obtain ⟨ad132, e132, hx132_0⟩ := Kd.at_int (Kd.V_reads' HO_4.out).2.2 x7_2 p132 q132
                     cases e132
                     replace p132 := eq_true p132
                     replace q132 := eq_true q132
                     have p17 : 0 ≤ (x7_2 : Int) := of_decide_eq_true (by first | (with_reducible assumption) | assumption); have q17 : (x7_2 : Int) < ((x5_2.length : Int) : Int) := of_decide_eq_true (by first | (with_reducible assumption) | assumption)
                     obtain ⟨go17, co17, eo17, gb17, gl17, cl17, HG17⟩ := Kd.R_form HO_5.out (by omega)
                     (first | cases eo17 | (injection eo17 with ea_ en_ ec_; (first | subst ea_ | (injection ea_ with ea_; subst ea_)); subst ec_; clear en_))
                     have GB17 := Aside0.mk gb17; have GG17 := Aside0.mk HG17; clear gb17 gl17 HG17
                     obtain ⟨hx17_0, hf17_0⟩ := Kd.R_celln 0 HO_5.out (x7_2 : Int) p17 q17
                     replace p17 := eq_true p17
                     replace q17 := eq_true q17
                     have HP18 := Kd.R_putg HO_5.out (x7_2 : Int) (((((x6_2 * 65536) % 4294967296) + (rd x4_1 x7_2)) % 4294967296) / 10)
                     go_wp2_with (first | ((with_reducible refine gate_store (t := 121) (p := 39) rfl ?_); refine store_event (t := 121) (p := 39) (v := ?vo_w19) (w1 := (wr.setCell ⟨go17, (x7_2 : Int).toNat, none⟩ (.int .u32 (((((x6_2 * 65536) % 4294967296) + (rd x4_1 x7_2)) % 4294967296) / 10)))) ?hg ?ho ?hn ?hr ?_; (case ho => rfl); (case hg => rfl); (case hn => rfl); (case hr => first | (go_simp; done) | (go_simp; rfl)); intro w19 hw; have hg : wr.grownBy w19 (some go17) := (by rw [hw]; exact HP18.2); have hp_ : Kd.R (Kd.int .u32) 121 w19 w.heap.size (fun k_ => (w.heap.size ≤ k_)) (.slice (some ⟨go17, 0, none⟩) x5_2.length co17) y133 := (by rw [hw, Ny133.out]; exact HP18.1); clear HP18; have n0_ := am (Kd.V_afterv (v := (.slice (some ⟨go17, 0, none⟩) x5_2.length co17)) (v1 := (.slice (some ⟨go17, 0, none⟩) x5_2.length co17)) (ok := (fun k_ => (P0_1_ k_ ∨ w.heap.size ≤ k_) ∧ k_ ≠ gb128)) (by (with_reducible repeat (first | apply Kd.V_alloc | apply Kd.V_drewN | apply Kd.V_drew)); exact Kd.V_mono HO_4.out (fun _ hk => ⟨⟨hk.1, hk.2.2⟩, hk.2.1⟩)) hg (.inl rfl)); have n1_ := am (hp_); have n2_ := am (Kd.V_afterv (v := (.slice (some ⟨go17, 0, none⟩) x5_2.length co17)) (v1 := (.slice (some ⟨go17, 0, none⟩) x5_2.length co17)) (ok := (fun k_ => (P0_1_ k_ ∨ w.heap.size ≤ k_) ∧ k_ ≠ gb128)) (by (with_reducible repeat (first | apply Kd.V_alloc | apply Kd.V_drewN | apply Kd.V_drew)); exact Kd.V_mono HO_129001.out (fun _ hk => ⟨⟨hk.1, hk.2.2⟩, hk.2.1⟩)) hg (.inl rfl)); have n3_ := am (blk_grown (g := gb128) (o := .cells #[.bool a0_0, u129001] 71 (0, 0)) (bq BK128) hg (Kd.R_ne HO_5.out BK128.out (by decide))); have n4_ := am ((by rw [hw]; exact below_set (HB.out) GB17.out : Below w.heap.size w w19)); clear HO_4; clear HO_5; clear HO_129001; clear BK128; clear HB; have HO_4 := n0_; have HO_5 := n1_; have HO_129001 := n2_; have BK128 := n3_; have HB := n4_; clear n0_ n1_ n2_ n3_ n4_; clear hg hw hp_))
                     go_roundg k2
                     case measure => have := HK1.out; have := HK2.out; omega
                     case rel => exact ⟨(y133), (((((x6_2 * 65536) % 4294967296) + (rd x4_1 x7_2)) % 4294967296) % 10), (wrap64 (x7_2 - 1)), (by first | rfl | (simp; done) | (simp [*]; done)), (by first | rfl | (simp; done) | (simp [*]; done)), H', ⟨by have := HK1.out; have := HK2.out; omega⟩, ⟨by (with_reducible repeat (first | apply Kd.V_alloc | apply Kd.V_drewN | apply Kd.V_drew)); exact Kd.V_mono HO_4.out (fun _ hk => ⟨hk.1.1, ⟨hk.2, hk.1.2⟩⟩)⟩, ⟨by (with_reducible repeat (first | apply Kd.R_alloc | apply Kd.R_drewN | apply Kd.R_drew)); exact HO_5.out⟩, ⟨by (with_reducible repeat (first | apply Kd.V_alloc | apply Kd.V_drewN | apply Kd.V_drew)); exact Kd.V_mono HO_129001.out (fun _ hk => ⟨hk.1.1, ⟨hk.2, hk.1.2⟩⟩)⟩, ⟨by (with_reducible repeat (first | apply bA | apply bB | apply bC)); exact BK128.out⟩, ⟨by repeat (first | (with_reducible first | exact HB.out | apply dA | apply dB | apply dC | refine dE ?_ ‹_›) | exact HB.out)⟩⟩
                   · rw [if_neg c16] at H
                     exact absurd H (by simp)
                 · rw [if_neg c15] at H
                   exact absurd H (by simp)
               · rw [if_neg c14] at H
                 exact absurd H (by simp)
             · rw [if_neg c13] at H
               have c13b0 : decide (0 ≤ x7_2) = false := decide_eq_false c13; clear c13
               obtain ⟨y134, hy134⟩ : ∃ y_ : List Int, y_ = (([((48 + x6_2) % 4294967296) % 256] : List Int)) := ⟨_, rfl⟩
               replace H : (if (strOfNums y134).size + x3_1.size ≤ 9223372036854775807 then ((tumblerref01_trim.f k2 x5_2).bind fun t137 => (tumblerref01_PrintN.l0 k2 ((strOfNums y134) ++ x3_1) t137 a0_0 x129001_1)) else (none)) = some r := by first | (rw [hy134]; with_reducible exact H) | (have H2_ := (Option.bind_some _ _).symm.trans H; rw [hy134]; with_reducible exact H2_) | (have H2_ := (Option.bind_some _ _).symm.trans H; with_reducible exact H2_) | with_reducible exact H | (rw [hy134]; exact H) | exact H
               have Ny134 := Aside0.mk hy134; clear hy134
               by_cases c20 : (strOfNums y134).size + x3_1.size ≤ 9223372036854775807
               · rw [if_pos c20] at H
                 have c20b0 := eq_true c20; have c20b1 : decide ((strOfNums y134).size + x3_1.size ≤ 9223372036854775807) = true := decide_eq_true c20
                 try have c20b2 : (9223372036854775807 < (strOfNums y134).size + x3_1.size) = False := eq_false (Nat.not_lt.2 c20)
                 replace H := Option.bind_eq_some_iff.mp H
                 obtain ⟨t137, A210, H⟩ := H
                 replace H : (tumblerref01_PrintN.l0 k2 ((strOfNums y134) ++ x3_1) t137 a0_0 x129001_1) = some r := H
                 have A21 := Aside0.mk A210; clear A210; have H' := Aside0.mk H; clear H
                 go_wp2_with (first | ((with_reducible refine gate_dst (N := 45) rfl ?_); refine Kd.R_lit (Kd.int .u8) _ 5 ?hg (N := 45) ?hd (xs := ([((48 + x6_2) % 4294967296) % 256] : List Int)) (inner := [.int .u8 (((48 + x6_2) % 4294967296) % 256)]) (ok := fun _ => True) (okp := fun _ => True) ?hr ?hp (fun _ hk => hk) trivial (Below.refl _ _) (Nat.le_refl _) (by simp) ?_; (case hd => rfl); (case hg => rfl); (case hr => first | (go_simp; done) | (go_simp; rfl)); (case hp => exact (Reps.one (show Kd.M (Kd.int .u8) _ _ _ (((48 + x6_2) % 4294967296) % 256) [.int .u8 (((48 + x6_2) % 4294967296) % 256)] from rfl) (Reps.none _ _))); intro v135 w22 ho23 hb hg_ hnew_; clear hg_ hnew_; (first | rw [← Ny134.out] at ho23 | (simp only [Int.reduceToNat] at ho23; rw [← Ny134.out] at ho23)); have n0_ := am (Kd.V_elder' (by (with_reducible repeat (first | apply Kd.V_alloc | apply Kd.V_drewN | apply Kd.V_drew)); exact HO_4.out) (Kd.R_base ho23) hb); have n1_ := am (Kd.R_below (by (with_reducible repeat (first | apply Kd.R_alloc | apply Kd.R_drewN | apply Kd.R_drew)); exact HO_5.out) hb); have n2_ := am (Kd.V_elder' (by (with_reducible repeat (first | apply Kd.V_alloc | apply Kd.V_drewN | apply Kd.V_drew)); exact HO_129001.out) (Kd.R_base ho23) hb); have n3_ := am (Kd.R_lower (Kd.R_newM (M := fun k_ => (w.heap.size ≤ k_)) ho23 (below_size bz) (fun k_ h_ => h_)) (below_size bz)); have n4_ := am (bb BK128 hb); have n5_ := am (below_step bz hb); clear HO_4; clear HO_5; clear HO_129001; clear BK128; clear HB; have HO_4 := n0_; have HO_5 := n1_; have HO_129001 := n2_; have HO136 := n3_; have BK128 := n4_; have HB := n5_; clear n0_ n1_ n2_ n3_ n4_ n5_; clear hb ho23; have hcv24 := own_string (P := Tryd.prog) Tryd.underlying111 Tryd.underlying5 Tryd.underlying9 (Kd.own_of_R HO136.out); obtain ⟨Ao25, co25, eo25⟩ := Kd.R_slice HO_5.out; subst eo25) | ((with_reducible refine gate_callee (f := 103) rfl ?_); refine goesL_ (some 50) rfl rfl Tryd.func103 (by kernel_rfl) rfl #[.slice Ao25 x5_2.length co25] rfl (by (try simp only [List.map_toArray, List.map_cons, List.map_nil]); first | done | rfl | (simp only [List.length_drop, List.length_take]; rfl)) ?_; (with_reducible refine (tumblerref01_trim.calls k2 (fun k_ => some k_ = (.slice Ao25 x5_2.length co25 : Value).ownBlock) _ _ x5_2 t137 _ ?side1 A21.out).mono ?_); (case side1 => exact Kd.R_V (Kd.R_tight rfl (Kd.R_types (Kd.R_apart' (HO_5.out) (Kd.R_typed HO136.out) (by decide)) BK128.out (by decide)))); rintro e w26 ⟨v138, rfl, ho0, hb⟩; refine ⟨_, rfl, ?_⟩; have n0_ := am (Kd.V_below (by (with_reducible repeat (first | apply Kd.V_alloc | apply Kd.V_drewN | apply Kd.V_drew)); exact HO_4.out) hb); have n1_ := am (Kd.R_below (by (with_reducible repeat (first | apply Kd.R_alloc | apply Kd.R_drewN | apply Kd.R_drew)); exact HO_5.out) hb); have n2_ := am (Kd.V_below (by (with_reducible repeat (first | apply Kd.V_alloc | apply Kd.V_drewN | apply Kd.V_drew)); exact HO_129001.out) hb); have n3_ := am (Kd.R_below (by (with_reducible repeat (first | apply Kd.R_alloc | apply Kd.R_drewN | apply Kd.R_drew)); exact HO136.out) hb); have n4_ := am (Kd.V_lower (Kd.V_mono (ok' := fun k_ => (P0_1_ k_ ∨ w.heap.size ≤ k_) ∧ some k_ ≠ (v135 : Value).ownBlock ∧ k_ ≠ gb128) ho0 (fun k_ hk_ => ⟨Or.elim hk_ (fun hs_ => (.inr (((Kd.R_types (Kd.R_apart' (HO_5.out) (Kd.R_typed HO136.out) (by decide)) BK128.out (by decide)).1 k_ hs_.symm).1.1))) (fun hn_ => (.inr (Nat.le_trans (below_size bz) hn_))), Or.elim hk_ (fun hs_ => ((Kd.R_types (Kd.R_apart' (HO_5.out) (Kd.R_typed HO136.out) (by decide)) BK128.out (by decide)).1 k_ hs_.symm).1.2) (fun hn_ => (Kd.fresh' (Kd.R_lt (by (with_reducible repeat (first | apply Kd.R_alloc | apply Kd.R_drewN | apply Kd.R_drew)); exact HO136.out)) k_ hn_)), Or.elim hk_ (fun hs_ => ((Kd.R_types (Kd.R_apart' (HO_5.out) (Kd.R_typed HO136.out) (by decide)) BK128.out (by decide)).1 k_ hs_.symm).2) (fun hn_ => (Kd.freshB (g := gb128) (o := .cells #[.bool a0_0, u129001] 71 (0, 0)) (bq BK128) k_ hn_))⟩)) (below_size bz)); have n5_ := am (bb BK128 hb); have n6_ := am (below_step bz hb); clear HO_4; clear HO_5; clear HO_129001; clear HO136; clear BK128; clear HB; have HO_4 := n0_; have HO_5 := n1_; have HO_129001 := n2_; have HO136 := n3_; have HO139 := n4_; have BK128 := n5_; have HB := n6_; clear n0_ n1_ n2_ n3_ n4_ n5_ n6_; (try clear hb); (try clear hb2); (try clear hk); (try clear hi); (try clear ho0)))
                 go_roundg k2
                 case measure => have := HK1.out; have := HK2.out; omega
                 case rel => exact ⟨((strOfNums y134) ++ x3_1), (t137), (x129001_1), (u129001), (by first | rfl | (simp; done) | (simp [*]; done)), H', ⟨by have := HK1.out; have := HK2.out; omega⟩, ⟨by (with_reducible repeat (first | apply Kd.V_alloc | apply Kd.V_drewN | apply Kd.V_drew)); exact Kd.V_mono HO139.out (fun _ hk => ⟨hk.1, hk.2.2⟩)⟩, ⟨by (with_reducible repeat (first | apply Kd.V_alloc | apply Kd.V_drewN | apply Kd.V_drew)); exact Kd.V_mono HO_129001.out (fun _ hk => ⟨hk.1.1, hk.1.2.2⟩)⟩, ⟨by (with_reducible repeat (first | apply bA | apply bB | apply bC)); exact BK128.out⟩, ⟨by repeat (first | (with_reducible first | exact HB.out | apply dA | apply dB | apply dC | refine dE ?_ ‹_›) | exact HB.out)⟩⟩
               · rw [if_neg c20] at H
                 exact absurd H (by simp)
         · rw [if_neg c9] at H
           exact absurd H (by simp)
       · rw [if_neg c8] at H
         exact absurd H (by simp)
     · rw [if_neg c7] at H
       have c7b0 : decide (0 < (x4_1.length : Int)) = false := decide_eq_false c7; have c7b1 : decide (0 < x4_1.length) = false := decide_eq_false (by omega); clear c7
       by_cases c27 : a0_0 = true
       · subst c27
         have H1 : (if 1 + x3_1.size ≤ 9223372036854775807 then (some ((⟨#[45]⟩ : ByteArray) ++ x3_1)) else (none)) = some r := by rw [if_pos rfl] at H; exact H
         clear H; have H := H1; clear H1
         by_cases c28 : 1 + x3_1.size ≤ 9223372036854775807
         · rw [if_pos c28] at H
           have c28b0 := eq_true c28; have c28b1 : decide (1 + x3_1.size ≤ 9223372036854775807) = true := decide_eq_true c28
           try have c28b2 : (9223372036854775807 < 1 + x3_1.size) = False := eq_false (Nat.not_lt.2 c28)
           obtain rfl := Option.some.inj H
           obtain ⟨Ao29, co29, eo29⟩ := Kd.V_slice HO_4.out
           subst eo29; have hcz30_0 : wr.cell? ⟨gb128, 0, none⟩ = some (.bool true) := (blk_cell BK128.out 0).trans rfl; have hcz30_1 : wr.cell? ⟨gb128, 1, none⟩ = some (u129001) := (blk_cell BK128.out 1).trans rfl; have hfz30_0 := blk_frozen BK128.out 0; have hfz30_1 := blk_frozen BK128.out 1
           go_wp2
           go_ret
           exact ⟨by first | rfl | (simp [errW_none, errW_some] <;> rfl) | (simp [*, errW_none, errW_some] <;> rfl), by repeat (first | (with_reducible first | exact HB.out | apply dA | apply dB | apply dC | refine dE ?_ ‹_›) | exact HB.out)⟩
         · rw [if_neg c28] at H
           exact absurd H (by simp)
       · replace c27 := Bool.eq_false_iff.mpr c27
         subst c27
         have H1 : (some x3_1) = some r := by rw [if_neg (show ¬ (false = true) by decide)] at H; exact H
         clear H; have H := H1; clear H1
         obtain rfl := Option.some.inj H
         obtain ⟨Ao31, co31, eo31⟩ := Kd.V_slice HO_4.out
         subst eo31; have hcz32_0 : wr.cell? ⟨gb128, 0, none⟩ = some (.bool false) := (blk_cell BK128.out 0).trans rfl; have hcz32_1 : wr.cell? ⟨gb128, 1, none⟩ = some (u129001) := (blk_cell BK128.out 1).trans rfl; have hfz32_0 := blk_frozen BK128.out 0; have hfz32_1 := blk_frozen BK128.out 1
         go_wp2
         go_ret
         exact ⟨by first | rfl | (simp [errW_none, errW_some] <;> rfl) | (simp [*, errW_none, errW_some] <;> rfl), by repeat (first | (with_reducible first | exact HB.out | apply dA | apply dB | apply dC | refine dE ?_ ‹_›) | exact HB.out)⟩

end Go.Proofs.YtcfhmbhlibhlnaaDoor.P
