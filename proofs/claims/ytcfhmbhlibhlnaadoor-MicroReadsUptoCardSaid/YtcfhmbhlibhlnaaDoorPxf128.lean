-- Printed by this session's own pp.py (wip/tool) out of the translation.
import Derived.Test.YtcfhmbhlibhlnaaDoorPx0
import Derived.Test.YtcfhmbhlibhlnaaDoorPxf113
namespace Go.Proofs.YtcfhmbhlibhlnaaDoor.P
open Go.RowKit Go.Proofs.YtcfhmbhlibhlnaaDoorW.PrintWords Go.Proofs.YtcfhmbhlibhlnaaDoorW.PrintLast Go.Proofs.YtcfhmbhlibhlnaaDoorW.PrintMore Go.Proofs.YtcfhmbhlibhlnaaDoor.Mine
attribute [local go_sem] ext71 ext79 eqA61 eqA62
attribute [local go_sem] max2_int min2_int max_two min_two max_three min_three max_four min_four   -- for this text's walks alone
set_option linter.unusedVariables false
set_option linter.unusedSimpArgs false

/-! ### tumblerref02_Times: function 128 -/
def tumblerref02_Times.l0 : Nat → Int → Int → Int → Int → Bool → Int → Int → Bool → Option (Int × Int × Bool)
 | 0, _, _, _, _, _, _, _, _ => none
 | k + 1, x1, x6, x1066000, x1066001, x1066002, x1068000, x1068001, x1068002 => if x6 ≥ 0 then ((tumblerref02_Plus.f x1068000 x1068001 x1068002 x1068000 x1068001 x1068002).bind fun bt1068 => (if 0 ≤ (IntKind.u64.wrap (x6)) then (if (Go.bits .and .u64 (shr .u64 x1 (IntKind.u64.wrap (x6))) 1) = 1 then ((tumblerref02_Plus.f bt1068.1 bt1068.2.1 bt1068.2.2 x1066000 x1066001 x1066002).bind fun bt1071 => (tumblerref02_Times.l0 k x1 (wrap64 (x6 - 1)) x1066000 x1066001 x1066002 bt1071.1 bt1071.2.1 bt1071.2.2)) else (tumblerref02_Times.l0 k x1 (wrap64 (x6 - 1)) x1066000 x1066001 x1066002 bt1068.1 bt1068.2.1 bt1068.2.2)) else (none))) else (some (x1068000, x1068001, x1068002))
def tumblerref02_Times.f (k : Nat) (a0_0 : Int) (a0_1 : Int) (a0_2 : Bool) (a1 : Int) : Option (Int × Int × Bool) := tumblerref02_Times.l0 k a1 63 a0_0 a0_1 a0_2 0 0 false
theorem tumblerref02_Times.mono_l : ∀ k, (∀ y0 y1 y2 y3 y4 y5 y6 y7, LeO (tumblerref02_Times.l0 k y0 y1 y2 y3 y4 y5 y6 y7) (tumblerref02_Times.l0 (k + 1) y0 y1 y2 y3 y4 y5 y6 y7))
 | 0 => fun _ _ _ _ _ _ _ _ r h => by simp [tumblerref02_Times.l0] at h
 | k + 1 => by
  have ih0 := tumblerref02_Times.mono_l k
  · intro y0 y1 y2 y3 y4 y5 y6 y7
    unfold tumblerref02_Times.l0
    repeat' first
    | (with_reducible exact ih0 _ _ _ _ _ _ _ _)
    | (with_reducible exact LeO.refl _)
    | (with_reducible exact LeO.none _)
    | (with_reducible refine LeO.ite ?_ ?_)
    | (with_reducible refine LeO.bind ?_ (fun _ => ?_))
    | exact ih0 _ _ _ _ _ _ _ _
    | exact LeO.none _
    | refine LeO.ite ?_ ?_
    | refine LeO.bind ?_ (fun _ => ?_)
theorem tumblerref02_Times.mono : ∀ a0 a1 a2 a3 k, LeO (tumblerref02_Times.f k a0 a1 a2 a3) (tumblerref02_Times.f (k + 1) a0 a1 a2 a3) := by
 intro a0 a1 a2 a3 k; have ih0 := tumblerref02_Times.mono_l k
 unfold tumblerref02_Times.f
 repeat' first
  | (with_reducible exact ih0 _ _ _ _ _ _ _ _)
  | (with_reducible exact LeO.refl _)
  | (with_reducible exact LeO.none _)
  | (with_reducible refine LeO.ite ?_ ?_)
  | (with_reducible refine LeO.bind ?_ (fun _ => ?_))
  | exact ih0 _ _ _ _ _ _ _ _
  | exact LeO.none _
  | refine LeO.ite ?_ ?_
  | refine LeO.bind ?_ (fun _ => ?_)
set_option maxHeartbeats 8000000 in
set_option maxRecDepth 100000 in
theorem tumblerref02_Times.calls (k : Nat) (a0_0 : Int) (a0_1 : Int) (a0_2 : Bool) (a1 : Int) (r1 : Int) (r2 : Int) (r3 : Bool) (w : World) (h : tumblerref02_Times.f k a0_0 a0_1 a0_2 a1 = some (r1, r2, r3)) :
 Calls Tryd.prog 128 #[.agg #[.int .u64 a0_0, .int .u64 a0_1, .bool a0_2], .int .u64 a1] w fun e w' => e = .returned (.agg #[.int .u64 r1, .int .u64 r2, .bool r3]) ∧ Below w.heap.size w w' := by
 have hu93 := Tryd.underlying93; have HB := am (Below.refl w.heap.size w); have H : (tumblerref02_Times.l0 k a1 63 a0_0 a0_1 a0_2 0 0 false) = some (r1, r2, r3) := h; clear h; have H' := Aside0.mk H; clear H
 go_enter Tryd.func128, Tryd.ntmps128
 go_wp2_with (first | ((with_reducible refine gate_dst (N := 2) rfl ?_); refine box_event (by rfl) (N := 2) (by rfl) (cs := #[.int .u64 a0_0, .int .u64 a0_1, .bool a0_2]) (t := 93) (by go_simp <;> rfl) ?_; intro gb1065 hg w3 hbox hb; have BK1065 := am (hbox); have GW1065 := gw w hg; replace HB := am (below_step bz hb); clear hb hbox hg) | ((with_reducible refine gate_dst (N := 4) rfl ?_); refine box_event (by rfl) (N := 4) (by rfl) (cs := #[.int .u64 0, .int .u64 0, .bool false]) (t := 93) (by go_simp <;> rfl) ?_; intro gb1066 hg w4 hbox hb; have BK1066 := am (hbox); have GW1066 := gw w hg; replace HB := am (below_step bz hb); have NB1065_1066 := nl BK1065 hg; have NB1066_1065 := nr BK1065 hg; replace BK1065 := am (bb BK1065 hb); clear hb hbox hg) | ((with_reducible refine gate_dst (N := 5) rfl ?_); refine box_event (by rfl) (N := 5) (by rfl) (cs := #[.int .u64 0, .int .u64 0, .bool false]) (t := 93) (by go_simp <;> rfl) ?_; intro gb1067 hg w5 hbox hb; have BK1067 := am (hbox); have GW1067 := gw w hg; replace HB := am (below_step bz hb); have NB1065_1067 := nl BK1065 hg; have NB1067_1065 := nr BK1065 hg; replace BK1065 := am (bb BK1065 hb); have NB1066_1067 := nl BK1066 hg; have NB1067_1066 := nr BK1066 hg; replace BK1066 := am (bb BK1066 hb); clear hb hbox hg; have hnb6 := NB1067_1065.out; have hnc6 := NB1065_1067.out; have hnb7 := NB1067_1066.out; have hnc7 := NB1066_1067.out; have hcz8_0 : w5.cell? ⟨gb1067, 0, none⟩ = some (.int .u64 0) := bc BK1067 0; have hcz8_1 : w5.cell? ⟨gb1067, 1, none⟩ = some (.int .u64 0) := bc BK1067 1; have hcz8_2 : w5.cell? ⟨gb1067, 2, none⟩ = some (.bool false) := bc BK1067 2; have hfz8_0 := blk_frozen BK1067.out 0; have hfz8_1 := blk_frozen BK1067.out 1; have hfz8_2 := blk_frozen BK1067.out 2))
 go_loopg [6] k (fun kq v6 w' => ∃ (x6_1 : Int) (x1068000_1 : Int) (x1068001_1 : Int) (x1068002_1 : Bool), v6 = .int .i64 x6_1 ∧ Aside0 (tumblerref02_Times.l0 kq a1 x6_1 a0_0 a0_1 a0_2 x1068000_1 x1068001_1 x1068002_1 = some (r1, r2, r3)) ∧ Aside0 (kq ≤ k) ∧ Aside0 (w'.heap[gb1065]? = some (.cells #[.int .u64 a0_0, .int .u64 a0_1, .bool a0_2] 93 (0, 0))) ∧ Aside0 (w'.heap[gb1066]? = some (.cells #[.int .u64 0, .int .u64 0, .bool false] 93 (0, 0))) ∧ Aside0 (w'.heap[gb1067]? = some (.cells #[.int .u64 x1068000_1, .int .u64 x1068001_1, .bool x1068002_1] 93 (0, 0))) ∧ Aside0 (Below w.heap.size w w'))
 case atStart => exact ⟨(63), (0), (0), (false), rs, H', ⟨Nat.le_refl _⟩, kf, kf, ⟨blk_put (blk_put (blk_put BK1067.out 0 _ rfl) 1 _ rfl) 2 _ rfl⟩, ⟨bz⟩⟩
 case round =>
  clear H'
  try clear c1
  try clear p2
  try clear c6
  try clear c7
  try clear hcz8_0
  try clear hcz8_1
  try clear hcz8_2
  try clear hfz8_0
  try clear hfz8_1
  try clear hfz8_2
  obtain ⟨x6_1, x1068000_1, x1068001_1, x1068002_1, rfl, HA, HK1, BK1065, BK1066, BK1067, HB⟩ := hrel
  cases gk with
  | zero => exact absurd HA.out (by simp [tumblerref02_Times.l0])
  | succ k1 =>
   have H := HA.out; clear HA
   simp only [tumblerref02_Times.l0] at H
   by_cases c9 : x6_1 ≥ 0
   · rw [if_pos c9] at H
     have c9b0 : decide (0 ≤ x6_1) = true := decide_eq_true c9; clear c9
     replace H := Option.bind_eq_some_iff.mp H
     obtain ⟨⟨t1068, t1069, t1070⟩, A100, H⟩ := H
     replace H : (if 0 ≤ (IntKind.u64.wrap (x6_1)) then (if (Go.bits .and .u64 (shr .u64 a1 (IntKind.u64.wrap (x6_1))) 1) = 1 then ((tumblerref02_Plus.f t1068 t1069 t1070 a0_0 a0_1 a0_2).bind fun bt1071 => (tumblerref02_Times.l0 k1 a1 (wrap64 (x6_1 - 1)) a0_0 a0_1 a0_2 bt1071.1 bt1071.2.1 bt1071.2.2)) else (tumblerref02_Times.l0 k1 a1 (wrap64 (x6_1 - 1)) a0_0 a0_1 a0_2 t1068 t1069 t1070)) else (none)) = some (r1, r2, r3) := H
     have A10 := Aside0.mk A100; clear A100
     obtain ⟨ji11, hji11⟩ : ∃ j_ : Int, (IntKind.u64.wrap (x6_1)) = j_ := ⟨_, rfl⟩
     replace H : (if 0 ≤ (ji11) then (if (Go.bits .and .u64 (shr .u64 a1 (ji11)) 1) = 1 then ((tumblerref02_Plus.f t1068 t1069 t1070 a0_0 a0_1 a0_2).bind fun bt1071 => (tumblerref02_Times.l0 k1 a1 (wrap64 (x6_1 - 1)) a0_0 a0_1 a0_2 bt1071.1 bt1071.2.1 bt1071.2.2)) else (tumblerref02_Times.l0 k1 a1 (wrap64 (x6_1 - 1)) a0_0 a0_1 a0_2 t1068 t1069 t1070)) else (none)) = some (r1, r2, r3) := by first | (rw [hji11] at H; exact H) | (simp only [hji11] at H ⊢; exact H)
     (try rw [hji11] at A10)
     by_cases c12 : 0 ≤ (ji11)
     · rw [if_pos c12] at H
       have c12b0 := eq_true c12; have c12b1 : decide (0 ≤ (ji11)) = true := decide_eq_true c12; clear c12
       obtain ⟨ji13, hji13⟩ : ∃ j_ : Int, (shr .u64 a1 (ji11)) = j_ := ⟨_, rfl⟩
       replace H : (if (Go.bits .and .u64 (ji13) 1) = 1 then ((tumblerref02_Plus.f t1068 t1069 t1070 a0_0 a0_1 a0_2).bind fun bt1071 => (tumblerref02_Times.l0 k1 a1 (wrap64 (x6_1 - 1)) a0_0 a0_1 a0_2 bt1071.1 bt1071.2.1 bt1071.2.2)) else (tumblerref02_Times.l0 k1 a1 (wrap64 (x6_1 - 1)) a0_0 a0_1 a0_2 t1068 t1069 t1070)) = some (r1, r2, r3) := by first | (rw [hji13] at H; exact H) | (simp only [hji13] at H ⊢; exact H)
       (try rw [hji13] at A10); have hji13_ : (a1 / 2 ^ min (ji11).toNat 64) = ji13 := hji13; have hji13z : (ji11) ≤ 64 → (a1 / 2 ^ (ji11).toNat) = ji13 := shr_small hji13
       by_cases c14 : (Go.bits .and .u64 (ji13) 1) = 1
       · rw [if_pos c14] at H
         have c14b0 : ((Go.bits .and .u64 (ji13) 1) == 1) = true := beq_iff_eq.mpr c14; have c14b1 : ((Go.bits .and .u64 (ji13) 1) != 1) = false := bne_eq_false_iff_eq.mpr c14; clear c14
         replace H := Option.bind_eq_some_iff.mp H
         obtain ⟨⟨t1071, t1072, t1073⟩, A150, H⟩ := H
         replace H : (tumblerref02_Times.l0 k1 a1 (wrap64 (x6_1 - 1)) a0_0 a0_1 a0_2 t1071 t1072 t1073) = some (r1, r2, r3) := H
         have A15 := Aside0.mk A150; clear A150; have H' := Aside0.mk H; clear H; have hnb16 := NB1067_1065.out; have hnc16 := NB1065_1067.out; have hnb17 := NB1067_1066.out; have hnc17 := NB1066_1067.out; have hcz18_0 : wr.cell? ⟨gb1067, 0, none⟩ = some (.int .u64 x1068000_1) := bc BK1067 0; have hcz18_1 : wr.cell? ⟨gb1067, 1, none⟩ = some (.int .u64 x1068001_1) := bc BK1067 1; have hcz18_2 : wr.cell? ⟨gb1067, 2, none⟩ = some (.bool x1068002_1) := bc BK1067 2; have hfz18_0 := blk_frozen BK1067.out 0; have hfz18_1 := blk_frozen BK1067.out 1; have hfz18_2 := blk_frozen BK1067.out 2
         go_wp2_with (first | ((with_reducible refine gate_callee (f := 113) rfl ?_); refine goesL_ (some 14) rfl rfl Tryd.func113 (by kernel_rfl) rfl #[.agg #[.int .u64 x1068000_1, .int .u64 x1068001_1, .bool x1068002_1], .agg #[.int .u64 x1068000_1, .int .u64 x1068001_1, .bool x1068002_1]] rfl rf ?_; (with_reducible refine (tumblerref02_Plus.calls x1068000_1 x1068001_1 x1068002_1 x1068000_1 x1068001_1 x1068002_1 t1068 t1069 t1070 _ A10.out).mono ?_); rintro e w19 ⟨rfl, hb⟩; refine ⟨_, rfl, ?_⟩; replace BK1065 := am (bb BK1065 hb); replace BK1066 := am (bb BK1066 hb); replace BK1067 := am (bb BK1067 hb); replace HB := am (below_step bz hb); (try clear hb); (try clear hb2); (try clear hk); (try clear hi); have hcz20_0 : w19.cell? ⟨gb1067, 0, none⟩ = some (.int .u64 x1068000_1) := bc BK1067 0; have hcz20_1 : w19.cell? ⟨gb1067, 1, none⟩ = some (.int .u64 x1068001_1) := bc BK1067 1; have hcz20_2 : w19.cell? ⟨gb1067, 2, none⟩ = some (.bool x1068002_1) := bc BK1067 2; have hfz20_0 := blk_frozen BK1067.out 0; have hfz20_1 := blk_frozen BK1067.out 1; have hfz20_2 := blk_frozen BK1067.out 2; have hnb21 := NB1065_1066.out; have hnc21 := NB1066_1065.out; have hcz22_0 : w19.cell? ⟨gb1065, 0, none⟩ = some (.int .u64 a0_0) := bc BK1065 0; have hcz22_1 : w19.cell? ⟨gb1065, 1, none⟩ = some (.int .u64 a0_1) := bc BK1065 1; have hcz22_2 : w19.cell? ⟨gb1065, 2, none⟩ = some (.bool a0_2) := bc BK1065 2; have hfz22_0 := blk_frozen BK1065.out 0; have hfz22_1 := blk_frozen BK1065.out 1; have hfz22_2 := blk_frozen BK1065.out 2) | ((with_reducible refine gate_callee (f := 113) rfl ?_); refine goesL_ (some 23) rfl rfl Tryd.func113 (by kernel_rfl) rfl #[.agg #[.int .u64 t1068, .int .u64 t1069, .bool t1070], .agg #[.int .u64 a0_0, .int .u64 a0_1, .bool a0_2]] rfl rf ?_; (with_reducible refine (tumblerref02_Plus.calls t1068 t1069 t1070 a0_0 a0_1 a0_2 t1071 t1072 t1073 _ A15.out).mono ?_); rintro e w23 ⟨rfl, hb⟩; refine ⟨_, rfl, ?_⟩; replace BK1065 := am (blk_below (g := gb1065) (o := .cells #[.int .u64 a0_0, .int .u64 a0_1, .bool a0_2] 93 (0, 0)) kg hb); replace BK1066 := am (blk_below (g := gb1066) (o := .cells #[.int .u64 0, .int .u64 0, .bool false] 93 (0, 0)) kg hb); replace BK1067 := am (blk_below (g := gb1067) (o := .cells #[.int .u64 t1068, .int .u64 t1069, .bool t1070] 93 (0, 0)) (blk_put (blk_put (blk_put BK1067.out 0 _ rfl) 1 _ rfl) 2 _ rfl) hb); replace HB := am (below_step bz hb); (try clear hb); (try clear hb2); (try clear hk); (try clear hi); have hcz24_0 : w23.cell? ⟨gb1067, 0, none⟩ = some (.int .u64 t1068) := bc BK1067 0; have hcz24_1 : w23.cell? ⟨gb1067, 1, none⟩ = some (.int .u64 t1069) := bc BK1067 1; have hcz24_2 : w23.cell? ⟨gb1067, 2, none⟩ = some (.bool t1070) := bc BK1067 2; have hfz24_0 := blk_frozen BK1067.out 0; have hfz24_1 := blk_frozen BK1067.out 1; have hfz24_2 := blk_frozen BK1067.out 2))
         go_roundg k1
         case measure => have := HK1.out; omega
         case rel => exact ⟨(wrap64 (x6_1 - 1)), (t1071), (t1072), (t1073), rs, H', ⟨by have := HK1.out; omega⟩, kf, kf, ⟨blk_put (blk_put (blk_put BK1067.out 0 _ rfl) 1 _ rfl) 2 _ rfl⟩, ⟨bz⟩⟩
       · rw [if_neg c14] at H
         have c14b0 : ((Go.bits .and .u64 (ji13) 1) == 1) = false := beq_eq_false_iff_ne.mpr c14; have c14b1 : ((Go.bits .and .u64 (ji13) 1) != 1) = true := bne_iff_ne.mpr c14; have H' := Aside0.mk H; clear H; have hnb25 := NB1067_1065.out; have hnc25 := NB1065_1067.out; have hnb26 := NB1067_1066.out; have hnc26 := NB1066_1067.out; have hcz27_0 : wr.cell? ⟨gb1067, 0, none⟩ = some (.int .u64 x1068000_1) := bc BK1067 0; have hcz27_1 : wr.cell? ⟨gb1067, 1, none⟩ = some (.int .u64 x1068001_1) := bc BK1067 1; have hcz27_2 : wr.cell? ⟨gb1067, 2, none⟩ = some (.bool x1068002_1) := bc BK1067 2; have hfz27_0 := blk_frozen BK1067.out 0; have hfz27_1 := blk_frozen BK1067.out 1; have hfz27_2 := blk_frozen BK1067.out 2
         go_wp2_with (first | ((with_reducible refine gate_callee (f := 113) rfl ?_); refine goesL_ (some 14) rfl rfl Tryd.func113 (by kernel_rfl) rfl #[.agg #[.int .u64 x1068000_1, .int .u64 x1068001_1, .bool x1068002_1], .agg #[.int .u64 x1068000_1, .int .u64 x1068001_1, .bool x1068002_1]] rfl rf ?_; (with_reducible refine (tumblerref02_Plus.calls x1068000_1 x1068001_1 x1068002_1 x1068000_1 x1068001_1 x1068002_1 t1068 t1069 t1070 _ A10.out).mono ?_); rintro e w28 ⟨rfl, hb⟩; refine ⟨_, rfl, ?_⟩; replace BK1065 := am (bb BK1065 hb); replace BK1066 := am (bb BK1066 hb); replace BK1067 := am (bb BK1067 hb); replace HB := am (below_step bz hb); (try clear hb); (try clear hb2); (try clear hk); (try clear hi); have hcz29_0 : w28.cell? ⟨gb1067, 0, none⟩ = some (.int .u64 x1068000_1) := bc BK1067 0; have hcz29_1 : w28.cell? ⟨gb1067, 1, none⟩ = some (.int .u64 x1068001_1) := bc BK1067 1; have hcz29_2 : w28.cell? ⟨gb1067, 2, none⟩ = some (.bool x1068002_1) := bc BK1067 2; have hfz29_0 := blk_frozen BK1067.out 0; have hfz29_1 := blk_frozen BK1067.out 1; have hfz29_2 := blk_frozen BK1067.out 2))
         go_roundg k1
         case measure => have := HK1.out; omega
         case rel => exact ⟨(wrap64 (x6_1 - 1)), (t1068), (t1069), (t1070), rs, H', ⟨by have := HK1.out; omega⟩, kf, kf, ⟨blk_put (blk_put (blk_put BK1067.out 0 _ rfl) 1 _ rfl) 2 _ rfl⟩, ⟨bz⟩⟩
     · rw [if_neg c12] at H
       exact absurd H (by simp)
   · rw [if_neg c9] at H
     have c9b0 : decide (0 ≤ x6_1) = false := decide_eq_false c9; clear c9
     simp only [Option.some.injEq, Prod.mk.injEq] at H
     obtain ⟨rfl, rfl, rfl⟩ := H
     have hnb30 := NB1067_1065.out; have hnc30 := NB1065_1067.out; have hnb31 := NB1067_1066.out; have hnc31 := NB1066_1067.out; have hcz32_0 : wr.cell? ⟨gb1067, 0, none⟩ = some (.int .u64 x1068000_1) := bc BK1067 0; have hcz32_1 : wr.cell? ⟨gb1067, 1, none⟩ = some (.int .u64 x1068001_1) := bc BK1067 1; have hcz32_2 : wr.cell? ⟨gb1067, 2, none⟩ = some (.bool x1068002_1) := bc BK1067 2; have hfz32_0 := blk_frozen BK1067.out 0; have hfz32_1 := blk_frozen BK1067.out 1; have hfz32_2 := blk_frozen BK1067.out 2; have hnb33 := NB1066_1065.out; have hnc33 := NB1065_1066.out; have hcz34_0 : wr.cell? ⟨gb1066, 0, none⟩ = some (.int .u64 0) := bc BK1066 0; have hcz34_1 : wr.cell? ⟨gb1066, 1, none⟩ = some (.int .u64 0) := bc BK1066 1; have hcz34_2 : wr.cell? ⟨gb1066, 2, none⟩ = some (.bool false) := bc BK1066 2; have hfz34_0 := blk_frozen BK1066.out 0; have hfz34_1 := blk_frozen BK1066.out 1; have hfz34_2 := blk_frozen BK1066.out 2
     go_wp2
     refine bodyPost_ret (results_cell_row rfl _ _ gb1066 93 #[.int .u64 x1068000_1, .int .u64 x1068001_1, .bool x1068002_1] (0, 0) _ rfl (blk_put (blk_put (blk_put BK1066.out 0 _ rfl) 1 _ rfl) 2 _ rfl) Tryd.underlying93 rfl (by kernel_rfl)) rfl ?_
     exact ⟨rg, bz⟩

end Go.Proofs.YtcfhmbhlibhlnaaDoor.P
