-- Printed by this session's own pp.py (wip/tool) out of the translation.
import Derived.Test.YtcfhmbhlibhlnaaDoorPx0
import Derived.Test.YtcfhmbhlibhlnaaDoorPxf70
namespace Go.Proofs.YtcfhmbhlibhlnaaDoor.P
open Go.RowKit Go.Proofs.YtcfhmbhlibhlnaaDoorW.PrintWords Go.Proofs.YtcfhmbhlibhlnaaDoorW.PrintLast Go.Proofs.YtcfhmbhlibhlnaaDoorW.PrintMore Go.Proofs.YtcfhmbhlibhlnaaDoor.Mine
attribute [local go_sem] ext71 ext79 eqA61 eqA62
attribute [local go_sem] max2_int min2_int max_two min_two max_three min_three max_four min_four   -- for this text's walks alone
set_option linter.unusedVariables false
set_option linter.unusedSimpArgs false

/-! ### wide_Root: function 36 -/
def wide_Root.l0 : Nat → Int → Int → Int → Int → Option (Int × Int × Int)
 | 0, _, _, _, _ => none
 | k + 1, x4, x5, x481000, x481001 => if x5 ≥ 0 then (if 0 ≤ (IntKind.u64.wrap (x5)) then ((bits_Mul64.f (Go.bits .or .u64 x4 (shl .u64 1 (IntKind.u64.wrap (x5)))) (Go.bits .or .u64 x4 (shl .u64 1 (IntKind.u64.wrap (x5))))).bind fun bt482 => (if bt482.1 < (IntKind.u64.wrap (x481000)) then (wide_Root.l0 k (Go.bits .or .u64 x4 (shl .u64 1 (IntKind.u64.wrap (x5)))) (wrap64 (x5 - 1)) x481000 x481001) else (if bt482.1 = (IntKind.u64.wrap (x481000)) then (if bt482.2 ≤ x481001 then (wide_Root.l0 k (Go.bits .or .u64 x4 (shl .u64 1 (IntKind.u64.wrap (x5)))) (wrap64 (x5 - 1)) x481000 x481001) else (wide_Root.l0 k x4 (wrap64 (x5 - 1)) x481000 x481001)) else (wide_Root.l0 k x4 (wrap64 (x5 - 1)) x481000 x481001)))) else (none)) else (some (0, x4, 0))
def wide_Root.f (k : Nat) (a0_0 : Int) (a0_1 : Int) : Option (Int × Int × Int) := if a0_0 < 0 then (some (0, 0, 13)) else (wide_Root.l0 k 0 63 a0_0 a0_1)
theorem wide_Root.mono_l : ∀ k, (∀ y0 y1 y2 y3, LeO (wide_Root.l0 k y0 y1 y2 y3) (wide_Root.l0 (k + 1) y0 y1 y2 y3))
 | 0 => fun _ _ _ _ r h => by simp [wide_Root.l0] at h
 | k + 1 => by
  have ih0 := wide_Root.mono_l k
  · intro y0 y1 y2 y3
    unfold wide_Root.l0
    repeat' first
    | (with_reducible exact ih0 _ _ _ _)
    | (with_reducible exact LeO.refl _)
    | (with_reducible exact LeO.none _)
    | (with_reducible refine LeO.ite ?_ ?_)
    | (with_reducible refine LeO.bind ?_ (fun _ => ?_))
    | exact ih0 _ _ _ _
    | exact LeO.none _
    | refine LeO.ite ?_ ?_
    | refine LeO.bind ?_ (fun _ => ?_)
theorem wide_Root.mono : ∀ a0 a1 k, LeO (wide_Root.f k a0 a1) (wide_Root.f (k + 1) a0 a1) := by
 intro a0 a1 k; have ih0 := wide_Root.mono_l k
 unfold wide_Root.f
 repeat' first
  | (with_reducible exact ih0 _ _ _ _)
  | (with_reducible exact LeO.refl _)
  | (with_reducible exact LeO.none _)
  | (with_reducible refine LeO.ite ?_ ?_)
  | (with_reducible refine LeO.bind ?_ (fun _ => ?_))
  | exact ih0 _ _ _ _
  | exact LeO.none _
  | refine LeO.ite ?_ ?_
  | refine LeO.bind ?_ (fun _ => ?_)
set_option maxHeartbeats 8000000 in
set_option maxRecDepth 100000 in
theorem wide_Root.calls (k : Nat) (a0_0 : Int) (a0_1 : Int) (r1 : Int) (r2 : Int) (r3 : Int) (w : World) (h : wide_Root.f k a0_0 a0_1 = some (r1, r2, r3)) :
 Calls Tryd.prog 36 #[.agg #[.int .i64 a0_0, .int .u64 a0_1]] w fun e w' => e = .returned (.tuple #[.agg #[.int .i64 r1, .int .u64 r2], .int .i64 r3]) ∧ Below w.heap.size w w' := by
 have hu24 := Tryd.underlying24; have HB := am (Below.refl w.heap.size w); have H : (if a0_0 < 0 then (some (0, 0, 13)) else (wide_Root.l0 k 0 63 a0_0 a0_1)) = some (r1, r2, r3) := h; clear h
 by_cases c2 : a0_0 < 0
 · rw [if_pos c2] at H
   have c2b0 : decide (a0_0 < 0) = true := decide_eq_true c2; clear c2
   simp only [Option.some.injEq, Prod.mk.injEq] at H
   obtain ⟨rfl, rfl, rfl⟩ := H
   go_enter Tryd.func36, Tryd.ntmps36
   go_wp2_with (first | ((with_reducible refine gate_dst (N := 1) rfl ?_); refine box_event ?hg (N := 1) ?hd (cs := #[.int .i64 a0_0, .int .u64 a0_1]) (t := 24) ?hr ?_; (case hd => rfl); (case hg => rfl); (case hr => first | (go_simp; done) | (go_simp; rfl)); intro gb480 hg w3 hbox hb; have n0_ := am (below_step bz hb); have n1_ := am (hbox); have n2_ := am ((by rw [hg]; exact (below_size bz) : w.heap.size ≤ gb480)); have n3_ := am ((by rw [hg]; exact (below_size bz) : w.heap.size ≤ gb480)); clear HB; have HB := n0_; have BK480 := n1_; have GW480 := n2_; have GE480 := n3_; clear n0_ n1_ n2_ n3_; clear hb hbox hg) | ((with_reducible refine gate_dst (N := 2) rfl ?_); refine box_event ?hg (N := 2) ?hd (cs := #[.int .i64 0, .int .u64 0]) (t := 24) ?hr ?_; (case hd => rfl); (case hg => rfl); (case hr => first | (go_simp; done) | (go_simp; rfl)); intro gb481 hg w4 hbox hb; have n0_ := am (bb BK480 hb); have n1_ := am (below_step bz hb); have n2_ := am (hbox); have n3_ := am ((by rw [hg]; exact (below_size bz) : w.heap.size ≤ gb481)); have n4_ := am ((by rw [hg]; exact (below_size bz) : w.heap.size ≤ gb481)); have n5_ := am ((by rw [hg]; exact Nat.ne_of_lt (bl BK480) : gb480 ≠ gb481)); have n6_ := am ((by rw [hg]; exact Nat.ne_of_gt (bl BK480) : gb481 ≠ gb480)); clear BK480; clear HB; have BK480 := n0_; have HB := n1_; have BK481 := n2_; have GW481 := n3_; have GE481 := n4_; have NB480_481 := n5_; have NB481_480 := n6_; clear n0_ n1_ n2_ n3_ n4_ n5_ n6_; clear hb hbox hg; have hnb5 := NB480_481.out; have hnc5 := NB481_480.out; have hcz6_0 : w4.cell? ⟨gb480, 0, none⟩ = some (.int .i64 a0_0) := (blk_cell BK480.out 0).trans rfl; have hcz6_1 : w4.cell? ⟨gb480, 1, none⟩ = some (.int .u64 a0_1) := (blk_cell BK480.out 1).trans rfl; have hfz6_0 := blk_frozen BK480.out 0; have hfz6_1 := blk_frozen BK480.out 1; have hcz7_0 : w4.cell? ⟨gb481, 0, none⟩ = some (.int .i64 0) := (blk_cell BK481.out 0).trans rfl; have hcz7_1 : w4.cell? ⟨gb481, 1, none⟩ = some (.int .u64 0) := (blk_cell BK481.out 1).trans rfl; have hfz7_0 := blk_frozen BK481.out 0; have hfz7_1 := blk_frozen BK481.out 1))
   refine bodyPost_ret (results_ct rfl _ _ gb481 24 #[.int .i64 0, .int .u64 0] (0, 0) _ rfl (by (with_reducible repeat (first | apply bA | apply bB | apply bC)); refine blk_put (cs := #[.int .i64 0, .int .u64 0]) ?_ 1 _ rfl; (with_reducible repeat (first | apply bA | apply bB | apply bC)); refine blk_put (cs := #[.int .i64 0, .int .u64 0]) ?_ 0 _ rfl; (with_reducible repeat (first | apply bA | apply bB | apply bC)); exact BK481.out) Tryd.underlying24 rfl (by kernel_rfl)) rfl ?_
   exact ⟨by first | rfl | (simp [errW_none, errW_some] <;> rfl) | (simp [*, errW_none, errW_some] <;> rfl), by repeat (first | (with_reducible first | exact HB.out | apply dA | apply dB | apply dC | refine dE ?_ ‹_›) | exact HB.out)⟩
 · rw [if_neg c2] at H
   have c2b0 : decide (a0_0 < 0) = false := decide_eq_false c2; clear c2; have H' := Aside0.mk H; clear H
   go_enter Tryd.func36, Tryd.ntmps36
   go_wp2_with (first | ((with_reducible refine gate_dst (N := 1) rfl ?_); refine box_event ?hg (N := 1) ?hd (cs := #[.int .i64 a0_0, .int .u64 a0_1]) (t := 24) ?hr ?_; (case hd => rfl); (case hg => rfl); (case hr => first | (go_simp; done) | (go_simp; rfl)); intro gb480 hg w8 hbox hb; have n0_ := am (below_step bz hb); have n1_ := am (hbox); have n2_ := am ((by rw [hg]; exact (below_size bz) : w.heap.size ≤ gb480)); have n3_ := am ((by rw [hg]; exact (below_size bz) : w.heap.size ≤ gb480)); clear HB; have HB := n0_; have BK480 := n1_; have GW480 := n2_; have GE480 := n3_; clear n0_ n1_ n2_ n3_; clear hb hbox hg) | ((with_reducible refine gate_dst (N := 2) rfl ?_); refine box_event ?hg (N := 2) ?hd (cs := #[.int .i64 0, .int .u64 0]) (t := 24) ?hr ?_; (case hd => rfl); (case hg => rfl); (case hr => first | (go_simp; done) | (go_simp; rfl)); intro gb481 hg w9 hbox hb; have n0_ := am (bb BK480 hb); have n1_ := am (below_step bz hb); have n2_ := am (hbox); have n3_ := am ((by rw [hg]; exact (below_size bz) : w.heap.size ≤ gb481)); have n4_ := am ((by rw [hg]; exact (below_size bz) : w.heap.size ≤ gb481)); have n5_ := am ((by rw [hg]; exact Nat.ne_of_lt (bl BK480) : gb480 ≠ gb481)); have n6_ := am ((by rw [hg]; exact Nat.ne_of_gt (bl BK480) : gb481 ≠ gb480)); clear BK480; clear HB; have BK480 := n0_; have HB := n1_; have BK481 := n2_; have GW481 := n3_; have GE481 := n4_; have NB480_481 := n5_; have NB481_480 := n6_; clear n0_ n1_ n2_ n3_ n4_ n5_ n6_; clear hb hbox hg; have hnb10 := NB480_481.out; have hnc10 := NB481_480.out; have hcz11_0 : w9.cell? ⟨gb480, 0, none⟩ = some (.int .i64 a0_0) := (blk_cell BK480.out 0).trans rfl; have hcz11_1 : w9.cell? ⟨gb480, 1, none⟩ = some (.int .u64 a0_1) := (blk_cell BK480.out 1).trans rfl; have hfz11_0 := blk_frozen BK480.out 0; have hfz11_1 := blk_frozen BK480.out 1))
   go_loopg [4, 5] k (fun kq v4 v5 w' => ∃ (x4_1 : Int) (x5_1 : Int), v4 = .int .u64 x4_1 ∧ v5 = .int .i64 x5_1 ∧ Aside0 (wide_Root.l0 kq x4_1 x5_1 a0_0 a0_1 = some (r1, r2, r3)) ∧ Aside0 (kq ≤ k) ∧ Aside0 (w'.heap[gb480]? = some (.cells #[.int .i64 a0_0, .int .u64 a0_1] 24 (0, 0))) ∧ Aside0 (w'.heap[gb481]? = some (.cells #[.int .i64 0, .int .u64 0] 24 (0, 0))) ∧ Aside0 (Below w.heap.size w w'))
   case atStart => exact ⟨(0), (63), (by first | rfl | (simp; done) | (simp [*]; done)), (by first | rfl | (simp; done) | (simp [*]; done)), H', ⟨Nat.le_refl _⟩, ⟨by (with_reducible repeat (first | apply bA | apply bB | apply bC)); exact BK480.out⟩, ⟨by (with_reducible repeat (first | apply bA | apply bB | apply bC)); exact BK481.out⟩, ⟨by repeat (first | (with_reducible first | exact HB.out | apply dA | apply dB | apply dC | refine dE ?_ ‹_›) | exact HB.out)⟩⟩
   case round =>
    clear H'
    try clear c1
    try clear c2
    try clear c2b0
    try clear p2
    try clear c3
    try clear c5
    try clear c10
    try clear hcz11_0
    try clear hcz11_1
    try clear hcz6_0
    try clear hcz6_1
    try clear hcz7_0
    try clear hcz7_1
    try clear hfz11_0
    try clear hfz11_1
    try clear hfz6_0
    try clear hfz6_1
    try clear hfz7_0
    try clear hfz7_1
    obtain ⟨x4_1, x5_1, rfl, rfl, HA, HK1, BK480, BK481, HB⟩ := hrel
    cases gk with
    | zero => exact absurd HA.out (by simp [wide_Root.l0])
    | succ k1 =>
     have H := HA.out; clear HA
     simp only [wide_Root.l0] at H
     by_cases c12 : x5_1 ≥ 0
     · rw [if_pos c12] at H
       have c12b0 : decide (0 ≤ x5_1) = true := decide_eq_true c12; clear c12
       obtain ⟨ji13, hji13⟩ : ∃ j_ : Int, (IntKind.u64.wrap (x5_1)) = j_ := ⟨_, rfl⟩
       replace H : (if 0 ≤ (ji13) then ((bits_Mul64.f (Go.bits .or .u64 x4_1 (shl .u64 1 (ji13))) (Go.bits .or .u64 x4_1 (shl .u64 1 (ji13)))).bind fun bt482 => (if bt482.1 < (IntKind.u64.wrap (a0_0)) then (wide_Root.l0 k1 (Go.bits .or .u64 x4_1 (shl .u64 1 (ji13))) (wrap64 (x5_1 - 1)) a0_0 a0_1) else (if bt482.1 = (IntKind.u64.wrap (a0_0)) then (if bt482.2 ≤ a0_1 then (wide_Root.l0 k1 (Go.bits .or .u64 x4_1 (shl .u64 1 (ji13))) (wrap64 (x5_1 - 1)) a0_0 a0_1) else (wide_Root.l0 k1 x4_1 (wrap64 (x5_1 - 1)) a0_0 a0_1)) else (wide_Root.l0 k1 x4_1 (wrap64 (x5_1 - 1)) a0_0 a0_1)))) else (none)) = some (r1, r2, r3) := by first | (rw [hji13] at H; exact H) | (simp only [hji13] at H ⊢; exact H)
       by_cases c14 : 0 ≤ (ji13)
       · rw [if_pos c14] at H
         have c14b0 := eq_true c14; have c14b1 : decide (0 ≤ (ji13)) = true := decide_eq_true c14; clear c14
         obtain ⟨ji15, hji15⟩ : ∃ j_ : Int, (shl .u64 1 (ji13)) = j_ := ⟨_, rfl⟩
         replace H : ((bits_Mul64.f (Go.bits .or .u64 x4_1 (ji15)) (Go.bits .or .u64 x4_1 (ji15))).bind fun bt482 => (if bt482.1 < (IntKind.u64.wrap (a0_0)) then (wide_Root.l0 k1 (Go.bits .or .u64 x4_1 (ji15)) (wrap64 (x5_1 - 1)) a0_0 a0_1) else (if bt482.1 = (IntKind.u64.wrap (a0_0)) then (if bt482.2 ≤ a0_1 then (wide_Root.l0 k1 (Go.bits .or .u64 x4_1 (ji15)) (wrap64 (x5_1 - 1)) a0_0 a0_1) else (wide_Root.l0 k1 x4_1 (wrap64 (x5_1 - 1)) a0_0 a0_1)) else (wide_Root.l0 k1 x4_1 (wrap64 (x5_1 - 1)) a0_0 a0_1)))) = some (r1, r2, r3) := by first | (rw [hji15] at H; exact H) | (simp only [hji15] at H ⊢; exact H)
         have hji15_ : (IntKind.u64.wrap (1 * 2 ^ min (ji13).toNat 64)) = ji15 := hji15; have hji15z : (ji13) ≤ 64 → (IntKind.u64.wrap (1 * 2 ^ (ji13).toNat)) = ji15 := shl_small hji15
         have hji15u : (IntKind.u64.wrap (2 ^ min (ji13).toNat 64)) = ji15 := by have h_ := hji15_; rw [Int.one_mul] at h_; exact h_
         have hji15v : (ji13) ≤ 64 → (IntKind.u64.wrap (2 ^ (ji13).toNat)) = ji15 := fun hle_ => by have h_ := hji15z hle_; rw [Int.one_mul] at h_; exact h_
         replace H := Option.bind_eq_some_iff.mp H
         obtain ⟨⟨t482, t483⟩, A160, H⟩ := H
         replace H : (if t482 < (IntKind.u64.wrap (a0_0)) then (wide_Root.l0 k1 (Go.bits .or .u64 x4_1 (ji15)) (wrap64 (x5_1 - 1)) a0_0 a0_1) else (if t482 = (IntKind.u64.wrap (a0_0)) then (if t483 ≤ a0_1 then (wide_Root.l0 k1 (Go.bits .or .u64 x4_1 (ji15)) (wrap64 (x5_1 - 1)) a0_0 a0_1) else (wide_Root.l0 k1 x4_1 (wrap64 (x5_1 - 1)) a0_0 a0_1)) else (wide_Root.l0 k1 x4_1 (wrap64 (x5_1 - 1)) a0_0 a0_1))) = some (r1, r2, r3) := H
         have A16 := Aside0.mk A160; clear A160
         by_cases c17 : t482 < (IntKind.u64.wrap (a0_0))
         · rw [if_pos c17] at H
           have c17b0 : decide (t482 < (IntKind.u64.wrap (a0_0))) = true := decide_eq_true c17; clear c17; have H' := Aside0.mk H; clear H
           go_wp2_with (first | ((with_reducible refine gate_callee (f := 70) rfl ?_); refine goesL_ (some 25) rfl rfl Tryd.func70 (by kernel_rfl) rfl #[.int .u64 (Go.bits .or .u64 x4_1 (ji15)), .int .u64 (Go.bits .or .u64 x4_1 (ji15))] rfl (by (try simp only [List.map_toArray, List.map_cons, List.map_nil]); first | done | (simp only [hji15]; rfl) | rfl | (simp only [List.length_drop, List.length_take]; rfl)) ?_; (with_reducible refine (bits_Mul64.calls (Go.bits .or .u64 x4_1 (ji15)) (Go.bits .or .u64 x4_1 (ji15)) t482 t483 _ A16.out).mono ?_); rintro e w18 ⟨rfl, hb⟩; refine ⟨_, rfl, ?_⟩; have n0_ := am (bb BK480 hb); have n1_ := am (bb BK481 hb); have n2_ := am (below_step bz hb); clear BK480; clear BK481; clear HB; have BK480 := n0_; have BK481 := n1_; have HB := n2_; clear n0_ n1_ n2_; (try clear hb); (try clear hb2); (try clear hk); (try clear hi); have hnb19 := NB480_481.out; have hnc19 := NB481_480.out; have hcz20_0 : w18.cell? ⟨gb480, 0, none⟩ = some (.int .i64 a0_0) := (blk_cell BK480.out 0).trans rfl; have hcz20_1 : w18.cell? ⟨gb480, 1, none⟩ = some (.int .u64 a0_1) := (blk_cell BK480.out 1).trans rfl; have hfz20_0 := blk_frozen BK480.out 0; have hfz20_1 := blk_frozen BK480.out 1))
           go_roundg k1
           case measure => have := HK1.out; omega
           case rel => exact ⟨(Go.bits .or .u64 x4_1 (ji15)), (wrap64 (x5_1 - 1)), (by first | rfl | (simp; done) | (simp only [← hji15] <;> (first | rfl | simp)) | (simp [*]; done)), (by first | rfl | (simp; done) | (simp [*]; done)), H', ⟨by have := HK1.out; omega⟩, ⟨by (with_reducible repeat (first | apply bA | apply bB | apply bC)); exact BK480.out⟩, ⟨by (with_reducible repeat (first | apply bA | apply bB | apply bC)); exact BK481.out⟩, ⟨by repeat (first | (with_reducible first | exact HB.out | apply dA | apply dB | apply dC | refine dE ?_ ‹_›) | exact HB.out)⟩⟩
         · rw [if_neg c17] at H
           have c17b0 : decide (t482 < (IntKind.u64.wrap (a0_0))) = false := decide_eq_false c17; clear c17
           by_cases c21 : t482 = (IntKind.u64.wrap (a0_0))
           · rw [if_pos c21] at H
             have c21b0 : (t482 == (IntKind.u64.wrap (a0_0))) = true := beq_iff_eq.mpr c21; have c21b1 : (t482 != (IntKind.u64.wrap (a0_0))) = false := bne_eq_false_iff_eq.mpr c21; clear c21
             by_cases c22 : t483 ≤ a0_1
             · rw [if_pos c22] at H
               have c22b0 : decide (t483 ≤ a0_1) = true := decide_eq_true c22; clear c22; have H' := Aside0.mk H; clear H
               go_wp2_with (first | ((with_reducible refine gate_callee (f := 70) rfl ?_); refine goesL_ (some 25) rfl rfl Tryd.func70 (by kernel_rfl) rfl #[.int .u64 (Go.bits .or .u64 x4_1 (ji15)), .int .u64 (Go.bits .or .u64 x4_1 (ji15))] rfl (by (try simp only [List.map_toArray, List.map_cons, List.map_nil]); first | done | (simp only [hji15]; rfl) | rfl | (simp only [List.length_drop, List.length_take]; rfl)) ?_; (with_reducible refine (bits_Mul64.calls (Go.bits .or .u64 x4_1 (ji15)) (Go.bits .or .u64 x4_1 (ji15)) t482 t483 _ A16.out).mono ?_); rintro e w23 ⟨rfl, hb⟩; refine ⟨_, rfl, ?_⟩; have n0_ := am (bb BK480 hb); have n1_ := am (bb BK481 hb); have n2_ := am (below_step bz hb); clear BK480; clear BK481; clear HB; have BK480 := n0_; have BK481 := n1_; have HB := n2_; clear n0_ n1_ n2_; (try clear hb); (try clear hb2); (try clear hk); (try clear hi); have hnb24 := NB480_481.out; have hnc24 := NB481_480.out; have hcz25_0 : w23.cell? ⟨gb480, 0, none⟩ = some (.int .i64 a0_0) := (blk_cell BK480.out 0).trans rfl; have hcz25_1 : w23.cell? ⟨gb480, 1, none⟩ = some (.int .u64 a0_1) := (blk_cell BK480.out 1).trans rfl; have hfz25_0 := blk_frozen BK480.out 0; have hfz25_1 := blk_frozen BK480.out 1))
               go_roundg k1
               case measure => have := HK1.out; omega
               case rel => exact ⟨(Go.bits .or .u64 x4_1 (ji15)), (wrap64 (x5_1 - 1)), (by first | rfl | (simp; done) | (simp only [← hji15] <;> (first | rfl | simp)) | (simp [*]; done)), (by first | rfl | (simp; done) | (simp [*]; done)), H', ⟨by have := HK1.out; omega⟩, ⟨by (with_reducible repeat (first | apply bA | apply bB | apply bC)); exact BK480.out⟩, ⟨by (with_reducible repeat (first | apply bA | apply bB | apply bC)); exact BK481.out⟩, ⟨by repeat (first | (with_reducible first | exact HB.out | apply dA | apply dB | apply dC | refine dE ?_ ‹_›) | exact HB.out)⟩⟩
             · rw [if_neg c22] at H
               have c22b0 : decide (t483 ≤ a0_1) = false := decide_eq_false c22; clear c22; have H' := Aside0.mk H; clear H
               go_wp2_with (first | ((with_reducible refine gate_callee (f := 70) rfl ?_); refine goesL_ (some 25) rfl rfl Tryd.func70 (by kernel_rfl) rfl #[.int .u64 (Go.bits .or .u64 x4_1 (ji15)), .int .u64 (Go.bits .or .u64 x4_1 (ji15))] rfl (by (try simp only [List.map_toArray, List.map_cons, List.map_nil]); first | done | (simp only [hji15]; rfl) | rfl | (simp only [List.length_drop, List.length_take]; rfl)) ?_; (with_reducible refine (bits_Mul64.calls (Go.bits .or .u64 x4_1 (ji15)) (Go.bits .or .u64 x4_1 (ji15)) t482 t483 _ A16.out).mono ?_); rintro e w26 ⟨rfl, hb⟩; refine ⟨_, rfl, ?_⟩; have n0_ := am (bb BK480 hb); have n1_ := am (bb BK481 hb); have n2_ := am (below_step bz hb); clear BK480; clear BK481; clear HB; have BK480 := n0_; have BK481 := n1_; have HB := n2_; clear n0_ n1_ n2_; (try clear hb); (try clear hb2); (try clear hk); (try clear hi); have hnb27 := NB480_481.out; have hnc27 := NB481_480.out; have hcz28_0 : w26.cell? ⟨gb480, 0, none⟩ = some (.int .i64 a0_0) := (blk_cell BK480.out 0).trans rfl; have hcz28_1 : w26.cell? ⟨gb480, 1, none⟩ = some (.int .u64 a0_1) := (blk_cell BK480.out 1).trans rfl; have hfz28_0 := blk_frozen BK480.out 0; have hfz28_1 := blk_frozen BK480.out 1))
               go_roundg k1
               case measure => have := HK1.out; omega
               case rel => exact ⟨(x4_1), (wrap64 (x5_1 - 1)), (by first | rfl | (simp; done) | (simp [*]; done)), (by first | rfl | (simp; done) | (simp [*]; done)), H', ⟨by have := HK1.out; omega⟩, ⟨by (with_reducible repeat (first | apply bA | apply bB | apply bC)); exact BK480.out⟩, ⟨by (with_reducible repeat (first | apply bA | apply bB | apply bC)); exact BK481.out⟩, ⟨by repeat (first | (with_reducible first | exact HB.out | apply dA | apply dB | apply dC | refine dE ?_ ‹_›) | exact HB.out)⟩⟩
           · rw [if_neg c21] at H
             have c21b0 : (t482 == (IntKind.u64.wrap (a0_0))) = false := beq_eq_false_iff_ne.mpr c21; have c21b1 : (t482 != (IntKind.u64.wrap (a0_0))) = true := bne_iff_ne.mpr c21; have H' := Aside0.mk H; clear H
             go_wp2_with (first | ((with_reducible refine gate_callee (f := 70) rfl ?_); refine goesL_ (some 25) rfl rfl Tryd.func70 (by kernel_rfl) rfl #[.int .u64 (Go.bits .or .u64 x4_1 (ji15)), .int .u64 (Go.bits .or .u64 x4_1 (ji15))] rfl (by (try simp only [List.map_toArray, List.map_cons, List.map_nil]); first | done | (simp only [hji15]; rfl) | rfl | (simp only [List.length_drop, List.length_take]; rfl)) ?_; (with_reducible refine (bits_Mul64.calls (Go.bits .or .u64 x4_1 (ji15)) (Go.bits .or .u64 x4_1 (ji15)) t482 t483 _ A16.out).mono ?_); rintro e w29 ⟨rfl, hb⟩; refine ⟨_, rfl, ?_⟩; have n0_ := am (bb BK480 hb); have n1_ := am (bb BK481 hb); have n2_ := am (below_step bz hb); clear BK480; clear BK481; clear HB; have BK480 := n0_; have BK481 := n1_; have HB := n2_; clear n0_ n1_ n2_; (try clear hb); (try clear hb2); (try clear hk); (try clear hi); have hnb30 := NB480_481.out; have hnc30 := NB481_480.out; have hcz31_0 : w29.cell? ⟨gb480, 0, none⟩ = some (.int .i64 a0_0) := (blk_cell BK480.out 0).trans rfl; have hcz31_1 : w29.cell? ⟨gb480, 1, none⟩ = some (.int .u64 a0_1) := (blk_cell BK480.out 1).trans rfl; have hfz31_0 := blk_frozen BK480.out 0; have hfz31_1 := blk_frozen BK480.out 1))
             go_roundg k1
             case measure => have := HK1.out; omega
             case rel => exact ⟨(x4_1), (wrap64 (x5_1 - 1)), (by first | rfl | (simp; done) | (simp [*]; done)), (by first | rfl | (simp; done) | (simp [*]; done)), H', ⟨by have := HK1.out; omega⟩, ⟨by (with_reducible repeat (first | apply bA | apply bB | apply bC)); exact BK480.out⟩, ⟨by (with_reducible repeat (first | apply bA | apply bB | apply bC)); exact BK481.out⟩, ⟨by repeat (first | (with_reducible first | exact HB.out | apply dA | apply dB | apply dC | refine dE ?_ ‹_›) | exact HB.out)⟩⟩
       · rw [if_neg c14] at H
         exact absurd H (by simp)
     · rw [if_neg c12] at H
       have c12b0 : decide (0 ≤ x5_1) = false := decide_eq_false c12; clear c12
       simp only [Option.some.injEq, Prod.mk.injEq] at H
       obtain ⟨rfl, rfl, rfl⟩ := H
       have hnb32 := NB481_480.out; have hnc32 := NB480_481.out; have hcz33_0 : wr.cell? ⟨gb481, 0, none⟩ = some (.int .i64 0) := (blk_cell BK481.out 0).trans rfl; have hcz33_1 : wr.cell? ⟨gb481, 1, none⟩ = some (.int .u64 0) := (blk_cell BK481.out 1).trans rfl; have hfz33_0 := blk_frozen BK481.out 0; have hfz33_1 := blk_frozen BK481.out 1
       go_wp2
       refine bodyPost_ret (results_ct rfl _ _ gb481 24 #[.int .i64 0, .int .u64 x4_1] (0, 0) _ rfl (by (with_reducible repeat (first | apply bA | apply bB | apply bC)); refine blk_put (cs := #[.int .i64 0, .int .u64 0]) ?_ 1 _ rfl; (with_reducible repeat (first | apply bA | apply bB | apply bC)); refine blk_put (cs := #[.int .i64 0, .int .u64 0]) ?_ 0 _ rfl; (with_reducible repeat (first | apply bA | apply bB | apply bC)); exact BK481.out) Tryd.underlying24 rfl (by kernel_rfl)) rfl ?_
       exact ⟨by first | rfl | (simp [errW_none, errW_some] <;> rfl) | (simp [*, errW_none, errW_some] <;> rfl), by repeat (first | (with_reducible first | exact HB.out | apply dA | apply dB | apply dC | refine dE ?_ ‹_›) | exact HB.out)⟩

end Go.Proofs.YtcfhmbhlibhlnaaDoor.P
