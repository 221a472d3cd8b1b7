-- Printed by this session's own pp.py (wip/tool) out of the translation.
import Derived.Test.YtcfhmbhlibhlnaaDoorPx0
import Derived.Test.YtcfhmbhlibhlnaaDoorPxg0
import Derived.Test.YtcfhmbhlibhlnaaDoorPxf65
namespace Go.Proofs.YtcfhmbhlibhlnaaDoor.P
open Go.RowKit Go.Proofs.YtcfhmbhlibhlnaaDoorW.PrintWords Go.Proofs.YtcfhmbhlibhlnaaDoorW.PrintLast Go.Proofs.YtcfhmbhlibhlnaaDoorW.PrintMore Go.Proofs.YtcfhmbhlibhlnaaDoor.Mine
attribute [local go_sem] ext71 ext79 eqA61 eqA62
attribute [local go_sem] max2_int min2_int max_two min_two max_three min_three max_four min_four   -- for this text's walks alone
set_option linter.unusedVariables false
set_option linter.unusedSimpArgs false

/-! ### wide_Print: function 25 -/
def wide_Print.l0 : Nat → ByteArray → Int → Int → Int → Int → Option (ByteArray)
 | 0, _, _, _, _, _ => none
 | k + 1, x4, x110000, x110001, x113000, x113001 => (wide_divided.f k x113000 x113001 10000000000000000000 0).bind fun bt113 => ((strconv_FormatUint.f bt113.2.2.1 10).bind fun t119 => (if bt113.1 = 0 then (if bt113.2.1 = 0 then (if t119.size + x4.size ≤ 9223372036854775807 then (if x110000 < 0 then (if 1 + (t119 ++ x4).size ≤ 9223372036854775807 then (some ((⟨#[45]⟩ : ByteArray) ++ (t119 ++ x4))) else (none)) else (some (t119 ++ x4))) else (none)) else ((strings_Repeat.f (⟨#[48]⟩ : ByteArray) (wrap64 (19 - (t119.size : Int)))).bind fun t120 => (if t120.size + t119.size ≤ 9223372036854775807 then (if (t120 ++ t119).size + x4.size ≤ 9223372036854775807 then (wide_Print.l0 k ((t120 ++ t119) ++ x4) x110000 x110001 bt113.1 bt113.2.1) else (none)) else (none)))) else ((strings_Repeat.f (⟨#[48]⟩ : ByteArray) (wrap64 (19 - (t119.size : Int)))).bind fun t121 => (if t121.size + t119.size ≤ 9223372036854775807 then (if (t121 ++ t119).size + x4.size ≤ 9223372036854775807 then (wide_Print.l0 k ((t121 ++ t119) ++ x4) x110000 x110001 bt113.1 bt113.2.1) else (none)) else (none)))))
def wide_Print.f (k : Nat) (a0_0 : Int) (a0_1 : Int) : Option (ByteArray) := (wide_amount.f a0_0 a0_1).bind fun bt110 => (wide_Print.l0 k (⟨#[]⟩ : ByteArray) a0_0 a0_1 bt110.1 bt110.2)
theorem wide_Print.mono_l : ∀ k, (∀ y0 y1 y2 y3 y4, LeO (wide_Print.l0 k y0 y1 y2 y3 y4) (wide_Print.l0 (k + 1) y0 y1 y2 y3 y4))
 | 0 => fun _ _ _ _ _ r h => by simp [wide_Print.l0] at h
 | k + 1 => by
  have ih0 := wide_Print.mono_l k
  · intro y0 y1 y2 y3 y4
    unfold wide_Print.l0
    repeat' first
    | (with_reducible exact ih0 _ _ _ _ _)
    | (with_reducible exact wide_divided.mono _ _ _ _ _)
    | (with_reducible exact LeO.refl _)
    | (with_reducible exact LeO.none _)
    | (with_reducible refine LeO.ite ?_ ?_)
    | (with_reducible refine LeO.bind ?_ (fun _ => ?_))
    | exact ih0 _ _ _ _ _
    | exact wide_divided.mono _ _ _ _ _
    | exact LeO.none _
    | refine LeO.ite ?_ ?_
    | refine LeO.bind ?_ (fun _ => ?_)
theorem wide_Print.mono : ∀ a0 a1 k, LeO (wide_Print.f k a0 a1) (wide_Print.f (k + 1) a0 a1) := by
 intro a0 a1 k; have ih0 := wide_Print.mono_l k
 unfold wide_Print.f
 repeat' first
  | (with_reducible exact ih0 _ _ _ _ _)
  | (with_reducible exact wide_divided.mono _ _ _ _ _)
  | (with_reducible exact LeO.refl _)
  | (with_reducible exact LeO.none _)
  | (with_reducible refine LeO.ite ?_ ?_)
  | (with_reducible refine LeO.bind ?_ (fun _ => ?_))
  | exact ih0 _ _ _ _ _
  | exact wide_divided.mono _ _ _ _ _
  | exact LeO.none _
  | refine LeO.ite ?_ ?_
  | refine LeO.bind ?_ (fun _ => ?_)
set_option maxHeartbeats 8000000 in
set_option maxRecDepth 100000 in
theorem wide_Print.calls (k : Nat) (a0_0 : Int) (a0_1 : Int) (r : ByteArray) (w : World) (hT : Aside0 (WF w)) (h : wide_Print.f k a0_0 a0_1 = some r) :
 Calls Tryd.prog 25 #[.agg #[.int .i64 a0_0, .int .u64 a0_1]] w fun e w' => e = .returned (.string r) ∧ Below w.heap.size w w' := by
 have hu24 := Tryd.underlying24; have hu62 := Tryd.underlying62; have HB := am (Below.refl w.heap.size w); have H : ((wide_amount.f a0_0 a0_1).bind fun bt110 => (wide_Print.l0 k (⟨#[]⟩ : ByteArray) a0_0 a0_1 bt110.1 bt110.2)) = some r := h; clear h
 replace H := Option.bind_eq_some_iff.mp H
 obtain ⟨⟨t110, t111⟩, A20, H⟩ := H
 replace H : (wide_Print.l0 k (⟨#[]⟩ : ByteArray) a0_0 a0_1 t110 t111) = some r := H
 have A2 := Aside0.mk A20; clear A20; have H' := Aside0.mk H; clear H
 go_enter Tryd.func25, Tryd.ntmps25
 go_wp2_with (first | ((with_reducible refine gate_dst (N := 1) rfl ?_); refine box_event (by rfl) (N := 1) (by rfl) (cs := #[.int .i64 a0_0, .int .u64 a0_1]) (t := 24) (by go_simp <;> rfl) ?_; intro gb109 hg w3 hbox hb; have BK109 := am (hbox); have GW109 := gw w hg; replace HB := am (below_step bz hb); clear hb hbox hg; have hcz4_0 : w3.cell? ⟨gb109, 0, none⟩ = some (.int .i64 a0_0) := bc BK109 0; have hcz4_1 : w3.cell? ⟨gb109, 1, none⟩ = some (.int .u64 a0_1) := bc BK109 1; have hfz4_0 := blk_frozen BK109.out 0; have hfz4_1 := blk_frozen BK109.out 1) | ((with_reducible refine gate_callee (f := 64) rfl ?_); refine goesL_ (some 9) rfl rfl Tryd.func64 (by kernel_rfl) rfl #[.agg #[.int .i64 a0_0, .int .u64 a0_1]] rfl rf ?_; (with_reducible refine (wide_amount.calls a0_0 a0_1 t110 t111 _ A2.out).mono ?_); rintro e w5 ⟨rfl, hb⟩; refine ⟨_, rfl, ?_⟩; replace BK109 := am (bb BK109 hb); replace HB := am (below_step bz hb); (try clear hb); (try clear hb2); (try clear hk); (try clear hi)) | ((with_reducible refine gate_dst (N := 3) rfl ?_); refine box_event (by rfl) (N := 3) (by rfl) (cs := #[.int .u64 0, .int .u64 0]) (t := 62) (by go_simp <;> rfl) ?_; intro gb112 hg w6 hbox hb; have BK112 := am (hbox); have GW112 := gw w hg; replace HB := am (below_step bz hb); have NB109_112 := nl BK109 hg; have NB112_109 := nr BK109 hg; replace BK109 := am (bb BK109 hb); clear hb hbox hg; have hnb7 := NB112_109.out; have hnc7 := NB109_112.out; have hcz8_0 : w6.cell? ⟨gb112, 0, none⟩ = some (.int .u64 0) := bc BK112 0; have hcz8_1 : w6.cell? ⟨gb112, 1, none⟩ = some (.int .u64 0) := bc BK112 1; have hfz8_0 := blk_frozen BK112.out 0; have hfz8_1 := blk_frozen BK112.out 1))
 go_loopg [4] k (fun kq v4 w' => ∃ (x4_1 : ByteArray) (x113000_1 : Int) (x113001_1 : Int), v4 = .string x4_1 ∧ Aside0 (wide_Print.l0 kq x4_1 a0_0 a0_1 x113000_1 x113001_1 = some r) ∧ Aside0 (kq ≤ k) ∧ Aside0 (w'.heap[gb109]? = some (.cells #[.int .i64 a0_0, .int .u64 a0_1] 24 (0, 0))) ∧ Aside0 (w'.heap[gb112]? = some (.cells #[.int .u64 x113000_1, .int .u64 x113001_1] 62 (0, 0))) ∧ Aside0 (Below w.heap.size w w'))
 case atStart => exact ⟨((⟨#[]⟩ : ByteArray)), (t110), (t111), rs, H', ⟨Nat.le_refl _⟩, kf, ⟨blk_put (blk_put BK112.out 0 _ rfl) 1 _ rfl⟩, ⟨bz⟩⟩
 case round =>
  clear H'
  try clear c2
  try clear p2
  try clear c6
  try clear c7
  try clear hcz4_0
  try clear hcz4_1
  try clear hcz8_0
  try clear hcz8_1
  try clear hfz4_0
  try clear hfz4_1
  try clear hfz8_0
  try clear hfz8_1
  obtain ⟨x4_1, x113000_1, x113001_1, rfl, HA, HK1, BK109, BK112, HB⟩ := hrel
  cases gk with
  | zero => exact absurd HA.out (by simp [wide_Print.l0])
  | succ k1 =>
   have H := HA.out; clear HA
   simp only [wide_Print.l0] at H
   replace H := Option.bind_eq_some_iff.mp H
   obtain ⟨⟨t113, t114, t115, t116⟩, A90, H⟩ := H
   replace H : ((strconv_FormatUint.f t115 10).bind fun t119 => (if t113 = 0 then (if t114 = 0 then (if t119.size + x4_1.size ≤ 9223372036854775807 then (if a0_0 < 0 then (if 1 + (t119 ++ x4_1).size ≤ 9223372036854775807 then (some ((⟨#[45]⟩ : ByteArray) ++ (t119 ++ x4_1))) else (none)) else (some (t119 ++ x4_1))) else (none)) else ((strings_Repeat.f (⟨#[48]⟩ : ByteArray) (wrap64 (19 - (t119.size : Int)))).bind fun t120 => (if t120.size + t119.size ≤ 9223372036854775807 then (if (t120 ++ t119).size + x4_1.size ≤ 9223372036854775807 then (wide_Print.l0 k1 ((t120 ++ t119) ++ x4_1) a0_0 a0_1 t113 t114) else (none)) else (none)))) else ((strings_Repeat.f (⟨#[48]⟩ : ByteArray) (wrap64 (19 - (t119.size : Int)))).bind fun t121 => (if t121.size + t119.size ≤ 9223372036854775807 then (if (t121 ++ t119).size + x4_1.size ≤ 9223372036854775807 then (wide_Print.l0 k1 ((t121 ++ t119) ++ x4_1) a0_0 a0_1 t113 t114) else (none)) else (none))))) = some r := H
   have A9 := Aside0.mk A90; clear A90
   replace H := Option.bind_eq_some_iff.mp H
   obtain ⟨t119, A100, H⟩ := H
   replace H : (if t113 = 0 then (if t114 = 0 then (if t119.size + x4_1.size ≤ 9223372036854775807 then (if a0_0 < 0 then (if 1 + (t119 ++ x4_1).size ≤ 9223372036854775807 then (some ((⟨#[45]⟩ : ByteArray) ++ (t119 ++ x4_1))) else (none)) else (some (t119 ++ x4_1))) else (none)) else ((strings_Repeat.f (⟨#[48]⟩ : ByteArray) (wrap64 (19 - (t119.size : Int)))).bind fun t120 => (if t120.size + t119.size ≤ 9223372036854775807 then (if (t120 ++ t119).size + x4_1.size ≤ 9223372036854775807 then (wide_Print.l0 k1 ((t120 ++ t119) ++ x4_1) a0_0 a0_1 t113 t114) else (none)) else (none)))) else ((strings_Repeat.f (⟨#[48]⟩ : ByteArray) (wrap64 (19 - (t119.size : Int)))).bind fun t121 => (if t121.size + t119.size ≤ 9223372036854775807 then (if (t121 ++ t119).size + x4_1.size ≤ 9223372036854775807 then (wide_Print.l0 k1 ((t121 ++ t119) ++ x4_1) a0_0 a0_1 t113 t114) else (none)) else (none)))) = some r := H
   have A10 := Aside0.mk A100; clear A100
   by_cases c11 : t113 = 0
   · rw [if_pos c11] at H
     have c11b0 : (t113 == 0) = true := beq_iff_eq.mpr c11; have c11b1 : (t113 != 0) = false := bne_eq_false_iff_eq.mpr c11; clear c11
     by_cases c12 : t114 = 0
     · rw [if_pos c12] at H
       have c12b0 : (t114 == 0) = true := beq_iff_eq.mpr c12; have c12b1 : (t114 != 0) = false := bne_eq_false_iff_eq.mpr c12; clear c12
       by_cases c13 : t119.size + x4_1.size ≤ 9223372036854775807
       · rw [if_pos c13] at H
         have c13b0 := eq_true c13; have c13b1 : decide (t119.size + x4_1.size ≤ 9223372036854775807) = true := decide_eq_true c13
         try have c13b2 : (9223372036854775807 < t119.size + x4_1.size) = False := eq_false (Nat.not_lt.2 c13)
         by_cases c14 : a0_0 < 0
         · rw [if_pos c14] at H
           have c14b0 : decide (a0_0 < 0) = true := decide_eq_true c14; clear c14
           by_cases c15 : 1 + (t119 ++ x4_1).size ≤ 9223372036854775807
           · rw [if_pos c15] at H
             have c15b0 := eq_true c15; have c15b1 : decide (1 + (t119 ++ x4_1).size ≤ 9223372036854775807) = true := decide_eq_true c15
             try have c15b2 : (9223372036854775807 < 1 + (t119 ++ x4_1).size) = False := eq_false (Nat.not_lt.2 c15)
             try (have c15z1 := c15; simp only [ByteArray.size_append] at c15z1; have c15z2 := eq_false (Nat.not_lt.2 c15z1); have c15z3 := decide_eq_true c15z1)
             try (have c15y1 := c15; simp [ByteArray.size_append, ByteArray.size_extract, show ∀ b_ : UInt8, ByteArray.size ⟨#[b_]⟩ = 1 from fun _ => rfl] at c15y1; have c15y2 := eq_false (Nat.not_lt.2 c15y1))
             obtain rfl := Option.some.inj H
             have hnb16 := NB112_109.out; have hnc16 := NB109_112.out; have hcz17_0 : wr.cell? ⟨gb112, 0, none⟩ = some (.int .u64 x113000_1) := bc BK112 0; have hcz17_1 : wr.cell? ⟨gb112, 1, none⟩ = some (.int .u64 x113001_1) := bc BK112 1; have hfz17_0 := blk_frozen BK112.out 0; have hfz17_1 := blk_frozen BK112.out 1
             go_wp2_with (first | ((with_reducible refine gate_callee (f := 65) rfl ?_); refine goesL_ (some 13) rfl rfl Tryd.func65 (by kernel_rfl) rfl #[.agg #[.int .u64 x113000_1, .int .u64 x113001_1], .agg #[.int .u64 10000000000000000000, .int .u64 0]] rfl rf ?_; (with_reducible refine (wide_divided.calls k1 x113000_1 x113001_1 10000000000000000000 0 t113 t114 t115 t116 _ A9.out).mono ?_); rintro e w18 ⟨rfl, hb⟩; refine ⟨_, rfl, ?_⟩; replace BK109 := am (bb BK109 hb); replace BK112 := am (bb BK112 hb); replace HB := am (below_step bz hb); (try clear hb); (try clear hb2); (try clear hk); (try clear hi)) | ((with_reducible refine gate_dst (N := 5) rfl ?_); refine box_event (by rfl) (N := 5) (by rfl) (cs := #[.int .u64 0, .int .u64 0]) (t := 62) (by go_simp <;> rfl) ?_; intro gb117 hg w19 hbox hb; have BK117 := am (hbox); have GW117 := gw w hg; replace HB := am (below_step bz hb); have NB109_117 := nl BK109 hg; have NB117_109 := nr BK109 hg; replace BK109 := am (bb BK109 hb); have NB112_117 := nl BK112 hg; have NB117_112 := nr BK112 hg; replace BK112 := am (bb BK112 hb); clear hb hbox hg) | ((with_reducible refine gate_dst (N := 6) rfl ?_); refine box_event (by rfl) (N := 6) (by rfl) (cs := #[.int .u64 0, .int .u64 0]) (t := 62) (by go_simp <;> rfl) ?_; intro gb118 hg w20 hbox hb; have BK118 := am (hbox); have GW118 := gw w hg; replace HB := am (below_step bz hb); have NB109_118 := nl BK109 hg; have NB118_109 := nr BK109 hg; replace BK109 := am (bb BK109 hb); have NB112_118 := nl BK112 hg; have NB118_112 := nr BK112 hg; replace BK112 := am (bb BK112 hb); have NB117_118 := nl BK117 hg; have NB118_117 := nr BK117 hg; replace BK117 := am (bb BK117 hb); clear hb hbox hg; have hnb21 := NB117_109.out; have hnc21 := NB109_117.out; have hnb22 := NB117_112.out; have hnc22 := NB112_117.out; have hnb23 := NB117_118.out; have hnc23 := NB118_117.out; have hcz24_0 : w20.cell? ⟨gb117, 0, none⟩ = some (.int .u64 0) := bc BK117 0; have hcz24_1 : w20.cell? ⟨gb117, 1, none⟩ = some (.int .u64 0) := bc BK117 1; have hfz24_0 := blk_frozen BK117.out 0; have hfz24_1 := blk_frozen BK117.out 1; have hnb25 := NB118_109.out; have hnc25 := NB109_118.out; have hnb26 := NB118_112.out; have hnc26 := NB112_118.out; have hcz27_0 : w20.cell? ⟨gb118, 0, none⟩ = some (.int .u64 0) := bc BK118 0; have hcz27_1 : w20.cell? ⟨gb118, 1, none⟩ = some (.int .u64 0) := bc BK118 1; have hfz27_0 := blk_frozen BK118.out 0; have hfz27_1 := blk_frozen BK118.out 1) | ((with_reducible refine gate_callee (f := 66) rfl ?_); refine goesL_ (some 18) rfl rfl Tryd.func66 (by kernel_rfl) rfl #[.int .u64 t115, .int .i64 10] rfl rf ?_; (with_reducible refine (strconv_FormatUint.calls t115 10 t119 _ (tN hT) A10.out).mono ?_); rintro e w28 ⟨rfl, hb⟩; refine ⟨_, rfl, ?_⟩; replace BK109 := am (blk_below (g := gb109) (o := .cells #[.int .i64 a0_0, .int .u64 a0_1] 24 (0, 0)) kg hb); replace BK112 := am (blk_below (g := gb112) (o := .cells #[.int .u64 x113000_1, .int .u64 x113001_1] 62 (0, 0)) kg hb); replace BK117 := am (blk_below (g := gb117) (o := .cells #[.int .u64 t113, .int .u64 t114] 62 (0, 0)) (blk_far (blk_far (blk_put (blk_put BK117.out 0 _ rfl) 1 _ rfl) NB117_118.out _) NB117_118.out _) hb); replace BK118 := am (blk_below (g := gb118) (o := .cells #[.int .u64 t115, .int .u64 t116] 62 (0, 0)) (blk_put (blk_put (blk_far (blk_far BK118.out NB118_117.out _) NB118_117.out _) 0 _ rfl) 1 _ rfl) hb); replace HB := am (below_step bz hb); (try clear hb); (try clear hb2); (try clear hk); (try clear hi); have hcz29_0 : w28.cell? ⟨gb117, 0, none⟩ = some (.int .u64 t113) := bc BK117 0; have hcz29_1 : w28.cell? ⟨gb117, 1, none⟩ = some (.int .u64 t114) := bc BK117 1; have hfz29_0 := blk_frozen BK117.out 0; have hfz29_1 := blk_frozen BK117.out 1; have hcz30_0 : w28.cell? ⟨gb109, 0, none⟩ = some (.int .i64 a0_0) := bc BK109 0; have hcz30_1 : w28.cell? ⟨gb109, 1, none⟩ = some (.int .u64 a0_1) := bc BK109 1; have hfz30_0 := blk_frozen BK109.out 0; have hfz30_1 := blk_frozen BK109.out 1))
             go_ret
             exact ⟨rg, bz⟩
           · rw [if_neg c15] at H
             exact absurd H (by simp)
         · rw [if_neg c14] at H
           have c14b0 : decide (a0_0 < 0) = false := decide_eq_false c14; clear c14
           obtain rfl := Option.some.inj H
           have hnb31 := NB112_109.out; have hnc31 := NB109_112.out; have hcz32_0 : wr.cell? ⟨gb112, 0, none⟩ = some (.int .u64 x113000_1) := bc BK112 0; have hcz32_1 : wr.cell? ⟨gb112, 1, none⟩ = some (.int .u64 x113001_1) := bc BK112 1; have hfz32_0 := blk_frozen BK112.out 0; have hfz32_1 := blk_frozen BK112.out 1
           go_wp2_with (first | ((with_reducible refine gate_callee (f := 65) rfl ?_); refine goesL_ (some 13) rfl rfl Tryd.func65 (by kernel_rfl) rfl #[.agg #[.int .u64 x113000_1, .int .u64 x113001_1], .agg #[.int .u64 10000000000000000000, .int .u64 0]] rfl rf ?_; (with_reducible refine (wide_divided.calls k1 x113000_1 x113001_1 10000000000000000000 0 t113 t114 t115 t116 _ A9.out).mono ?_); rintro e w33 ⟨rfl, hb⟩; refine ⟨_, rfl, ?_⟩; replace BK109 := am (bb BK109 hb); replace BK112 := am (bb BK112 hb); replace HB := am (below_step bz hb); (try clear hb); (try clear hb2); (try clear hk); (try clear hi)) | ((with_reducible refine gate_dst (N := 5) rfl ?_); refine box_event (by rfl) (N := 5) (by rfl) (cs := #[.int .u64 0, .int .u64 0]) (t := 62) (by go_simp <;> rfl) ?_; intro gb117 hg w34 hbox hb; have BK117 := am (hbox); have GW117 := gw w hg; replace HB := am (below_step bz hb); have NB109_117 := nl BK109 hg; have NB117_109 := nr BK109 hg; replace BK109 := am (bb BK109 hb); have NB112_117 := nl BK112 hg; have NB117_112 := nr BK112 hg; replace BK112 := am (bb BK112 hb); clear hb hbox hg) | ((with_reducible refine gate_dst (N := 6) rfl ?_); refine box_event (by rfl) (N := 6) (by rfl) (cs := #[.int .u64 0, .int .u64 0]) (t := 62) (by go_simp <;> rfl) ?_; intro gb118 hg w35 hbox hb; have BK118 := am (hbox); have GW118 := gw w hg; replace HB := am (below_step bz hb); have NB109_118 := nl BK109 hg; have NB118_109 := nr BK109 hg; replace BK109 := am (bb BK109 hb); have NB112_118 := nl BK112 hg; have NB118_112 := nr BK112 hg; replace BK112 := am (bb BK112 hb); have NB117_118 := nl BK117 hg; have NB118_117 := nr BK117 hg; replace BK117 := am (bb BK117 hb); clear hb hbox hg; have hnb36 := NB117_109.out; have hnc36 := NB109_117.out; have hnb37 := NB117_112.out; have hnc37 := NB112_117.out; have hnb38 := NB117_118.out; have hnc38 := NB118_117.out; have hcz39_0 : w35.cell? ⟨gb117, 0, none⟩ = some (.int .u64 0) := bc BK117 0; have hcz39_1 : w35.cell? ⟨gb117, 1, none⟩ = some (.int .u64 0) := bc BK117 1; have hfz39_0 := blk_frozen BK117.out 0; have hfz39_1 := blk_frozen BK117.out 1; have hnb40 := NB118_109.out; have hnc40 := NB109_118.out; have hnb41 := NB118_112.out; have hnc41 := NB112_118.out; have hcz42_0 : w35.cell? ⟨gb118, 0, none⟩ = some (.int .u64 0) := bc BK118 0; have hcz42_1 : w35.cell? ⟨gb118, 1, none⟩ = some (.int .u64 0) := bc BK118 1; have hfz42_0 := blk_frozen BK118.out 0; have hfz42_1 := blk_frozen BK118.out 1) | ((with_reducible refine gate_callee (f := 66) rfl ?_); refine goesL_ (some 18) rfl rfl Tryd.func66 (by kernel_rfl) rfl #[.int .u64 t115, .int .i64 10] rfl rf ?_; (with_reducible refine (strconv_FormatUint.calls t115 10 t119 _ (tN hT) A10.out).mono ?_); rintro e w43 ⟨rfl, hb⟩; refine ⟨_, rfl, ?_⟩; replace BK109 := am (blk_below (g := gb109) (o := .cells #[.int .i64 a0_0, .int .u64 a0_1] 24 (0, 0)) kg hb); replace BK112 := am (blk_below (g := gb112) (o := .cells #[.int .u64 x113000_1, .int .u64 x113001_1] 62 (0, 0)) kg hb); replace BK117 := am (blk_below (g := gb117) (o := .cells #[.int .u64 t113, .int .u64 t114] 62 (0, 0)) (blk_far (blk_far (blk_put (blk_put BK117.out 0 _ rfl) 1 _ rfl) NB117_118.out _) NB117_118.out _) hb); replace BK118 := am (blk_below (g := gb118) (o := .cells #[.int .u64 t115, .int .u64 t116] 62 (0, 0)) (blk_put (blk_put (blk_far (blk_far BK118.out NB118_117.out _) NB118_117.out _) 0 _ rfl) 1 _ rfl) hb); replace HB := am (below_step bz hb); (try clear hb); (try clear hb2); (try clear hk); (try clear hi); have hcz44_0 : w43.cell? ⟨gb117, 0, none⟩ = some (.int .u64 t113) := bc BK117 0; have hcz44_1 : w43.cell? ⟨gb117, 1, none⟩ = some (.int .u64 t114) := bc BK117 1; have hfz44_0 := blk_frozen BK117.out 0; have hfz44_1 := blk_frozen BK117.out 1; have hcz45_0 : w43.cell? ⟨gb109, 0, none⟩ = some (.int .i64 a0_0) := bc BK109 0; have hcz45_1 : w43.cell? ⟨gb109, 1, none⟩ = some (.int .u64 a0_1) := bc BK109 1; have hfz45_0 := blk_frozen BK109.out 0; have hfz45_1 := blk_frozen BK109.out 1))
           go_ret
           exact ⟨rg, bz⟩
       · rw [if_neg c13] at H
         exact absurd H (by simp)
     · rw [if_neg c12] at H
       have c12b0 : (t114 == 0) = false := beq_eq_false_iff_ne.mpr c12; have c12b1 : (t114 != 0) = true := bne_iff_ne.mpr c12
       replace H := Option.bind_eq_some_iff.mp H
       obtain ⟨t120, A460, H⟩ := H
       replace H : (if t120.size + t119.size ≤ 9223372036854775807 then (if (t120 ++ t119).size + x4_1.size ≤ 9223372036854775807 then (wide_Print.l0 k1 ((t120 ++ t119) ++ x4_1) a0_0 a0_1 t113 t114) else (none)) else (none)) = some r := H
       have A46 := Aside0.mk A460; clear A460
       by_cases c47 : t120.size + t119.size ≤ 9223372036854775807
       · rw [if_pos c47] at H
         have c47b0 := eq_true c47; have c47b1 : decide (t120.size + t119.size ≤ 9223372036854775807) = true := decide_eq_true c47
         try have c47b2 : (9223372036854775807 < t120.size + t119.size) = False := eq_false (Nat.not_lt.2 c47)
         by_cases c48 : (t120 ++ t119).size + x4_1.size ≤ 9223372036854775807
         · rw [if_pos c48] at H
           have c48b0 := eq_true c48; have c48b1 : decide ((t120 ++ t119).size + x4_1.size ≤ 9223372036854775807) = true := decide_eq_true c48
           try have c48b2 : (9223372036854775807 < (t120 ++ t119).size + x4_1.size) = False := eq_false (Nat.not_lt.2 c48)
           try (have c48z1 := c48; simp only [ByteArray.size_append] at c48z1; have c48z2 := eq_false (Nat.not_lt.2 c48z1); have c48z3 := decide_eq_true c48z1)
           try (have c48y1 := c48; simp [ByteArray.size_append, ByteArray.size_extract, show ∀ b_ : UInt8, ByteArray.size ⟨#[b_]⟩ = 1 from fun _ => rfl] at c48y1; have c48y2 := eq_false (Nat.not_lt.2 c48y1))
           have H' := Aside0.mk H; clear H; have hnb49 := NB112_109.out; have hnc49 := NB109_112.out; have hcz50_0 : wr.cell? ⟨gb112, 0, none⟩ = some (.int .u64 x113000_1) := bc BK112 0; have hcz50_1 : wr.cell? ⟨gb112, 1, none⟩ = some (.int .u64 x113001_1) := bc BK112 1; have hfz50_0 := blk_frozen BK112.out 0; have hfz50_1 := blk_frozen BK112.out 1
           have A46 : Aside0 (strings_Repeat.f (⟨#[48]⟩ : ByteArray) (19 - (t119.size : Int)) = some t120) := ⟨by have h_ := A46.out; rwa [show wrap64 (19 - (t119.size : Int)) = 19 - (t119.size : Int) from by unfold wrap64; omega] at h_⟩
           go_wp2_with (first | ((with_reducible refine gate_callee (f := 65) rfl ?_); refine goesL_ (some 13) rfl rfl Tryd.func65 (by kernel_rfl) rfl #[.agg #[.int .u64 x113000_1, .int .u64 x113001_1], .agg #[.int .u64 10000000000000000000, .int .u64 0]] rfl rf ?_; (with_reducible refine (wide_divided.calls k1 x113000_1 x113001_1 10000000000000000000 0 t113 t114 t115 t116 _ A9.out).mono ?_); rintro e w51 ⟨rfl, hb⟩; refine ⟨_, rfl, ?_⟩; replace BK109 := am (bb BK109 hb); replace BK112 := am (bb BK112 hb); replace HB := am (below_step bz hb); (try clear hb); (try clear hb2); (try clear hk); (try clear hi)) | ((with_reducible refine gate_dst (N := 5) rfl ?_); refine box_event (by rfl) (N := 5) (by rfl) (cs := #[.int .u64 0, .int .u64 0]) (t := 62) (by go_simp <;> rfl) ?_; intro gb117 hg w52 hbox hb; have BK117 := am (hbox); have GW117 := gw w hg; replace HB := am (below_step bz hb); have NB109_117 := nl BK109 hg; have NB117_109 := nr BK109 hg; replace BK109 := am (bb BK109 hb); have NB112_117 := nl BK112 hg; have NB117_112 := nr BK112 hg; replace BK112 := am (bb BK112 hb); clear hb hbox hg) | ((with_reducible refine gate_dst (N := 6) rfl ?_); refine box_event (by rfl) (N := 6) (by rfl) (cs := #[.int .u64 0, .int .u64 0]) (t := 62) (by go_simp <;> rfl) ?_; intro gb118 hg w53 hbox hb; have BK118 := am (hbox); have GW118 := gw w hg; replace HB := am (below_step bz hb); have NB109_118 := nl BK109 hg; have NB118_109 := nr BK109 hg; replace BK109 := am (bb BK109 hb); have NB112_118 := nl BK112 hg; have NB118_112 := nr BK112 hg; replace BK112 := am (bb BK112 hb); have NB117_118 := nl BK117 hg; have NB118_117 := nr BK117 hg; replace BK117 := am (bb BK117 hb); clear hb hbox hg; have hnb54 := NB117_109.out; have hnc54 := NB109_117.out; have hnb55 := NB117_112.out; have hnc55 := NB112_117.out; have hnb56 := NB117_118.out; have hnc56 := NB118_117.out; have hcz57_0 : w53.cell? ⟨gb117, 0, none⟩ = some (.int .u64 0) := bc BK117 0; have hcz57_1 : w53.cell? ⟨gb117, 1, none⟩ = some (.int .u64 0) := bc BK117 1; have hfz57_0 := blk_frozen BK117.out 0; have hfz57_1 := blk_frozen BK117.out 1; have hnb58 := NB118_109.out; have hnc58 := NB109_118.out; have hnb59 := NB118_112.out; have hnc59 := NB112_118.out; have hcz60_0 : w53.cell? ⟨gb118, 0, none⟩ = some (.int .u64 0) := bc BK118 0; have hcz60_1 : w53.cell? ⟨gb118, 1, none⟩ = some (.int .u64 0) := bc BK118 1; have hfz60_0 := blk_frozen BK118.out 0; have hfz60_1 := blk_frozen BK118.out 1) | ((with_reducible refine gate_callee (f := 66) rfl ?_); refine goesL_ (some 18) rfl rfl Tryd.func66 (by kernel_rfl) rfl #[.int .u64 t115, .int .i64 10] rfl rf ?_; (with_reducible refine (strconv_FormatUint.calls t115 10 t119 _ (tN hT) A10.out).mono ?_); rintro e w61 ⟨rfl, hb⟩; refine ⟨_, rfl, ?_⟩; replace BK109 := am (blk_below (g := gb109) (o := .cells #[.int .i64 a0_0, .int .u64 a0_1] 24 (0, 0)) kg hb); replace BK112 := am (blk_below (g := gb112) (o := .cells #[.int .u64 x113000_1, .int .u64 x113001_1] 62 (0, 0)) kg hb); replace BK117 := am (blk_below (g := gb117) (o := .cells #[.int .u64 t113, .int .u64 t114] 62 (0, 0)) (blk_far (blk_far (blk_put (blk_put BK117.out 0 _ rfl) 1 _ rfl) NB117_118.out _) NB117_118.out _) hb); replace BK118 := am (blk_below (g := gb118) (o := .cells #[.int .u64 t115, .int .u64 t116] 62 (0, 0)) (blk_put (blk_put (blk_far (blk_far BK118.out NB118_117.out _) NB118_117.out _) 0 _ rfl) 1 _ rfl) hb); replace HB := am (below_step bz hb); (try clear hb); (try clear hb2); (try clear hk); (try clear hi); have hcz62_0 : w61.cell? ⟨gb117, 0, none⟩ = some (.int .u64 t113) := bc BK117 0; have hcz62_1 : w61.cell? ⟨gb117, 1, none⟩ = some (.int .u64 t114) := bc BK117 1; have hfz62_0 := blk_frozen BK117.out 0; have hfz62_1 := blk_frozen BK117.out 1) | ((with_reducible refine gate_callee (f := 67) rfl ?_); refine goesL_ (some 28) rfl rfl Tryd.func67 (by kernel_rfl) rfl #[.string (⟨#[48]⟩ : ByteArray), .int .i64 (19 - (t119.size : Int))] rfl rf ?_; (with_reducible refine (strings_Repeat.calls (⟨#[48]⟩ : ByteArray) (19 - (t119.size : Int)) t120 _ A46.out).mono ?_); rintro e w63 ⟨rfl, hb⟩; refine ⟨_, rfl, ?_⟩; replace BK109 := am (bb BK109 hb); replace BK112 := am (bb BK112 hb); replace BK117 := am (bb BK117 hb); replace BK118 := am (bb BK118 hb); replace HB := am (below_step bz hb); (try clear hb); (try clear hb2); (try clear hk); (try clear hi); have hcz64_0 : w63.cell? ⟨gb117, 0, none⟩ = some (.int .u64 t113) := bc BK117 0; have hcz64_1 : w63.cell? ⟨gb117, 1, none⟩ = some (.int .u64 t114) := bc BK117 1; have hfz64_0 := blk_frozen BK117.out 0; have hfz64_1 := blk_frozen BK117.out 1; have hcz65_0 : w63.cell? ⟨gb112, 0, none⟩ = some (.int .u64 x113000_1) := bc BK112 0; have hcz65_1 : w63.cell? ⟨gb112, 1, none⟩ = some (.int .u64 x113001_1) := bc BK112 1; have hfz65_0 := blk_frozen BK112.out 0; have hfz65_1 := blk_frozen BK112.out 1))
           go_roundg k1
           case measure => have := HK1.out; omega
           case rel => exact ⟨((t120 ++ t119) ++ x4_1), (t113), (t114), rs, H', ⟨by have := HK1.out; omega⟩, kf, ⟨blk_put (blk_put BK112.out 0 _ rfl) 1 _ rfl⟩, ⟨bz⟩⟩
         · rw [if_neg c48] at H
           exact absurd H (by simp)
       · rw [if_neg c47] at H
         exact absurd H (by simp)
   · rw [if_neg c11] at H
     have c11b0 : (t113 == 0) = false := beq_eq_false_iff_ne.mpr c11; have c11b1 : (t113 != 0) = true := bne_iff_ne.mpr c11
     replace H := Option.bind_eq_some_iff.mp H
     obtain ⟨t121, A660, H⟩ := H
     replace H : (if t121.size + t119.size ≤ 9223372036854775807 then (if (t121 ++ t119).size + x4_1.size ≤ 9223372036854775807 then (wide_Print.l0 k1 ((t121 ++ t119) ++ x4_1) a0_0 a0_1 t113 t114) else (none)) else (none)) = some r := H
     have A66 := Aside0.mk A660; clear A660
     by_cases c67 : t121.size + t119.size ≤ 9223372036854775807
     · rw [if_pos c67] at H
       have c67b0 := eq_true c67; have c67b1 : decide (t121.size + t119.size ≤ 9223372036854775807) = true := decide_eq_true c67
       try have c67b2 : (9223372036854775807 < t121.size + t119.size) = False := eq_false (Nat.not_lt.2 c67)
       by_cases c68 : (t121 ++ t119).size + x4_1.size ≤ 9223372036854775807
       · rw [if_pos c68] at H
         have c68b0 := eq_true c68; have c68b1 : decide ((t121 ++ t119).size + x4_1.size ≤ 9223372036854775807) = true := decide_eq_true c68
         try have c68b2 : (9223372036854775807 < (t121 ++ t119).size + x4_1.size) = False := eq_false (Nat.not_lt.2 c68)
         try (have c68z1 := c68; simp only [ByteArray.size_append] at c68z1; have c68z2 := eq_false (Nat.not_lt.2 c68z1); have c68z3 := decide_eq_true c68z1)
         try (have c68y1 := c68; simp [ByteArray.size_append, ByteArray.size_extract, show ∀ b_ : UInt8, ByteArray.size ⟨#[b_]⟩ = 1 from fun _ => rfl] at c68y1; have c68y2 := eq_false (Nat.not_lt.2 c68y1))
         have H' := Aside0.mk H; clear H; have hnb69 := NB112_109.out; have hnc69 := NB109_112.out; have hcz70_0 : wr.cell? ⟨gb112, 0, none⟩ = some (.int .u64 x113000_1) := bc BK112 0; have hcz70_1 : wr.cell? ⟨gb112, 1, none⟩ = some (.int .u64 x113001_1) := bc BK112 1; have hfz70_0 := blk_frozen BK112.out 0; have hfz70_1 := blk_frozen BK112.out 1
         have A66 : Aside0 (strings_Repeat.f (⟨#[48]⟩ : ByteArray) (19 - (t119.size : Int)) = some t121) := ⟨by have h_ := A66.out; rwa [show wrap64 (19 - (t119.size : Int)) = 19 - (t119.size : Int) from by unfold wrap64; omega] at h_⟩
         go_wp2_with (first | ((with_reducible refine gate_callee (f := 65) rfl ?_); refine goesL_ (some 13) rfl rfl Tryd.func65 (by kernel_rfl) rfl #[.agg #[.int .u64 x113000_1, .int .u64 x113001_1], .agg #[.int .u64 10000000000000000000, .int .u64 0]] rfl rf ?_; (with_reducible refine (wide_divided.calls k1 x113000_1 x113001_1 10000000000000000000 0 t113 t114 t115 t116 _ A9.out).mono ?_); rintro e w71 ⟨rfl, hb⟩; refine ⟨_, rfl, ?_⟩; replace BK109 := am (bb BK109 hb); replace BK112 := am (bb BK112 hb); replace HB := am (below_step bz hb); (try clear hb); (try clear hb2); (try clear hk); (try clear hi)) | ((with_reducible refine gate_dst (N := 5) rfl ?_); refine box_event (by rfl) (N := 5) (by rfl) (cs := #[.int .u64 0, .int .u64 0]) (t := 62) (by go_simp <;> rfl) ?_; intro gb117 hg w72 hbox hb; have BK117 := am (hbox); have GW117 := gw w hg; replace HB := am (below_step bz hb); have NB109_117 := nl BK109 hg; have NB117_109 := nr BK109 hg; replace BK109 := am (bb BK109 hb); have NB112_117 := nl BK112 hg; have NB117_112 := nr BK112 hg; replace BK112 := am (bb BK112 hb); clear hb hbox hg) | ((with_reducible refine gate_dst (N := 6) rfl ?_); refine box_event (by rfl) (N := 6) (by rfl) (cs := #[.int .u64 0, .int .u64 0]) (t := 62) (by go_simp <;> rfl) ?_; intro gb118 hg w73 hbox hb; have BK118 := am (hbox); have GW118 := gw w hg; replace HB := am (below_step bz hb); have NB109_118 := nl BK109 hg; have NB118_109 := nr BK109 hg; replace BK109 := am (bb BK109 hb); have NB112_118 := nl BK112 hg; have NB118_112 := nr BK112 hg; replace BK112 := am (bb BK112 hb); have NB117_118 := nl BK117 hg; have NB118_117 := nr BK117 hg; replace BK117 := am (bb BK117 hb); clear hb hbox hg; have hnb74 := NB117_109.out; have hnc74 := NB109_117.out; have hnb75 := NB117_112.out; have hnc75 := NB112_117.out; have hnb76 := NB117_118.out; have hnc76 := NB118_117.out; have hcz77_0 : w73.cell? ⟨gb117, 0, none⟩ = some (.int .u64 0) := bc BK117 0; have hcz77_1 : w73.cell? ⟨gb117, 1, none⟩ = some (.int .u64 0) := bc BK117 1; have hfz77_0 := blk_frozen BK117.out 0; have hfz77_1 := blk_frozen BK117.out 1; have hnb78 := NB118_109.out; have hnc78 := NB109_118.out; have hnb79 := NB118_112.out; have hnc79 := NB112_118.out; have hcz80_0 : w73.cell? ⟨gb118, 0, none⟩ = some (.int .u64 0) := bc BK118 0; have hcz80_1 : w73.cell? ⟨gb118, 1, none⟩ = some (.int .u64 0) := bc BK118 1; have hfz80_0 := blk_frozen BK118.out 0; have hfz80_1 := blk_frozen BK118.out 1) | ((with_reducible refine gate_callee (f := 66) rfl ?_); refine goesL_ (some 18) rfl rfl Tryd.func66 (by kernel_rfl) rfl #[.int .u64 t115, .int .i64 10] rfl rf ?_; (with_reducible refine (strconv_FormatUint.calls t115 10 t119 _ (tN hT) A10.out).mono ?_); rintro e w81 ⟨rfl, hb⟩; refine ⟨_, rfl, ?_⟩; replace BK109 := am (blk_below (g := gb109) (o := .cells #[.int .i64 a0_0, .int .u64 a0_1] 24 (0, 0)) kg hb); replace BK112 := am (blk_below (g := gb112) (o := .cells #[.int .u64 x113000_1, .int .u64 x113001_1] 62 (0, 0)) kg hb); replace BK117 := am (blk_below (g := gb117) (o := .cells #[.int .u64 t113, .int .u64 t114] 62 (0, 0)) (blk_far (blk_far (blk_put (blk_put BK117.out 0 _ rfl) 1 _ rfl) NB117_118.out _) NB117_118.out _) hb); replace BK118 := am (blk_below (g := gb118) (o := .cells #[.int .u64 t115, .int .u64 t116] 62 (0, 0)) (blk_put (blk_put (blk_far (blk_far BK118.out NB118_117.out _) NB118_117.out _) 0 _ rfl) 1 _ rfl) hb); replace HB := am (below_step bz hb); (try clear hb); (try clear hb2); (try clear hk); (try clear hi); have hcz82_0 : w81.cell? ⟨gb117, 0, none⟩ = some (.int .u64 t113) := bc BK117 0; have hcz82_1 : w81.cell? ⟨gb117, 1, none⟩ = some (.int .u64 t114) := bc BK117 1; have hfz82_0 := blk_frozen BK117.out 0; have hfz82_1 := blk_frozen BK117.out 1) | ((with_reducible refine gate_callee (f := 67) rfl ?_); refine goesL_ (some 28) rfl rfl Tryd.func67 (by kernel_rfl) rfl #[.string (⟨#[48]⟩ : ByteArray), .int .i64 (19 - (t119.size : Int))] rfl rf ?_; (with_reducible refine (strings_Repeat.calls (⟨#[48]⟩ : ByteArray) (19 - (t119.size : Int)) t121 _ A66.out).mono ?_); rintro e w83 ⟨rfl, hb⟩; refine ⟨_, rfl, ?_⟩; replace BK109 := am (bb BK109 hb); replace BK112 := am (bb BK112 hb); replace BK117 := am (bb BK117 hb); replace BK118 := am (bb BK118 hb); replace HB := am (below_step bz hb); (try clear hb); (try clear hb2); (try clear hk); (try clear hi); have hcz84_0 : w83.cell? ⟨gb117, 0, none⟩ = some (.int .u64 t113) := bc BK117 0; have hcz84_1 : w83.cell? ⟨gb117, 1, none⟩ = some (.int .u64 t114) := bc BK117 1; have hfz84_0 := blk_frozen BK117.out 0; have hfz84_1 := blk_frozen BK117.out 1; have hcz85_0 : w83.cell? ⟨gb112, 0, none⟩ = some (.int .u64 x113000_1) := bc BK112 0; have hcz85_1 : w83.cell? ⟨gb112, 1, none⟩ = some (.int .u64 x113001_1) := bc BK112 1; have hfz85_0 := blk_frozen BK112.out 0; have hfz85_1 := blk_frozen BK112.out 1))
         go_roundg k1
         case measure => have := HK1.out; omega
         case rel => exact ⟨((t121 ++ t119) ++ x4_1), (t113), (t114), rs, H', ⟨by have := HK1.out; omega⟩, kf, ⟨blk_put (blk_put BK112.out 0 _ rfl) 1 _ rfl⟩, ⟨bz⟩⟩
       · rw [if_neg c68] at H
         exact absurd H (by simp)
     · rw [if_neg c67] at H
       exact absurd H (by simp)

end Go.Proofs.YtcfhmbhlibhlnaaDoor.P
