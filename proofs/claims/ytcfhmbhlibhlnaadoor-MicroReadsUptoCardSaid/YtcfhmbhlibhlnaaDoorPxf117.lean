-- Printed by this session's own pp.py (wip/tool) out of the translation.
import Derived.Test.YtcfhmbhlibhlnaaDoorPx0
import Derived.Test.YtcfhmbhlibhlnaaDoorPxf113
import Derived.Test.YtcfhmbhlibhlnaaDoorPxf128
namespace Go.Proofs.YtcfhmbhlibhlnaaDoor.P
open Go.RowKit Go.Proofs.YtcfhmbhlibhlnaaDoorW.PrintWords Go.Proofs.YtcfhmbhlibhlnaaDoorW.PrintLast Go.Proofs.YtcfhmbhlibhlnaaDoorW.PrintMore Go.Proofs.YtcfhmbhlibhlnaaDoor.Mine
attribute [local go_sem] ext71 ext79 eqA61 eqA62
attribute [local go_sem] max2_int min2_int max_two min_two max_three min_three max_four min_four   -- for this text's walks alone
set_option linter.unusedVariables false
set_option linter.unusedSimpArgs false

/-! ### tumblerref02_Worth: function 117 -/
mutual
def tumblerref02_Worth.l0 : Nat → ByteArray → Int → Int → Int → Bool → Option (Int × Int × Bool)
 | 0, _, _, _, _, _ => none
 | k + 1, x4, x5, x1077000, x1077001, x1077002 => if x5 < 6 then (if x4.size + 1 ≤ 9223372036854775807 then (tumblerref02_Worth.l0 k (x4 ++ (⟨#[48]⟩ : ByteArray)) (wrap64 (x5 + 1)) x1077000 x1077001 x1077002) else (none)) else (tumblerref02_Worth.l1 k x4 0 x1077000 x1077001 x1077002)
def tumblerref02_Worth.l1 : Nat → ByteArray → Int → Int → Int → Bool → Option (Int × Int × Bool)
 | 0, _, _, _, _, _ => none
 | k + 1, x4, x6, x1077000, x1077001, x1077002 => if x6 < (x4.size : Int) then (tumblerref02_Worth.j2 k x4 x6 (!x1077002) x1077000 x1077001 x1077002) else (tumblerref02_Worth.j2 k x4 x6 false x1077000 x1077001 x1077002)
def tumblerref02_Worth.j2 : Nat → ByteArray → Int → Bool → Int → Int → Bool → Option (Int × Int × Bool)
 | 0, _, _, _, _, _, _ => none
 | k + 1, x4, x6, x30, x1077000, x1077001, x1077002 => if x30 = true then ((tumblerref02_Times.f k x1077000 x1077001 x1077002 10).bind fun bt1077 => (if 0 ≤ x6 then (if x6 < (x4.size : Int) then ((tumblerref02_Plus.f bt1077.1 bt1077.2.1 bt1077.2.2 0 (((bt x4 x6) - 48) % 256) false).bind fun bt1080 => (tumblerref02_Worth.l1 k x4 (wrap64 (x6 + 1)) bt1080.1 bt1080.2.1 bt1080.2.2)) else (none)) else (none))) else (some (x1077000, x1077001, x1077002))
end
def tumblerref02_Worth.f (k : Nat) (a0_0 : Bool) (a0_1 : ByteArray) (a0_2 : ByteArray) : Option (Int × Int × Bool) := if a0_1.size + a0_2.size ≤ 9223372036854775807 then (tumblerref02_Worth.l0 k (a0_1 ++ a0_2) (a0_2.size : Int) 0 0 false) else (none)
theorem tumblerref02_Worth.mono_l : ∀ k, (∀ y0 y1 y2 y3 y4, LeO (tumblerref02_Worth.l0 k y0 y1 y2 y3 y4) (tumblerref02_Worth.l0 (k + 1) y0 y1 y2 y3 y4)) ∧ (∀ y0 y1 y2 y3 y4, LeO (tumblerref02_Worth.l1 k y0 y1 y2 y3 y4) (tumblerref02_Worth.l1 (k + 1) y0 y1 y2 y3 y4)) ∧ (∀ y0 y1 y2 y3 y4 y5, LeO (tumblerref02_Worth.j2 k y0 y1 y2 y3 y4 y5) (tumblerref02_Worth.j2 (k + 1) y0 y1 y2 y3 y4 y5))
 | 0 => ⟨fun _ _ _ _ _ r h => by simp [tumblerref02_Worth.l0] at h, fun _ _ _ _ _ r h => by simp [tumblerref02_Worth.l1] at h, fun _ _ _ _ _ _ r h => by simp [tumblerref02_Worth.j2] at h⟩
 | k + 1 => by
  obtain ⟨ih0, ih1, ih2⟩ := tumblerref02_Worth.mono_l k
  refine ⟨?_, ?_, ?_⟩
  · intro y0 y1 y2 y3 y4
    unfold tumblerref02_Worth.l0
    repeat' first
    | (with_reducible exact ih0 _ _ _ _ _)
    | (with_reducible exact ih1 _ _ _ _ _)
    | (with_reducible exact ih2 _ _ _ _ _ _)
    | (with_reducible exact tumblerref02_Times.mono _ _ _ _ _)
    | (with_reducible exact LeO.refl _)
    | (with_reducible exact LeO.none _)
    | (with_reducible refine LeO.ite ?_ ?_)
    | (with_reducible refine LeO.bind ?_ (fun _ => ?_))
    | exact ih0 _ _ _ _ _
    | exact ih1 _ _ _ _ _
    | exact ih2 _ _ _ _ _ _
    | exact tumblerref02_Times.mono _ _ _ _ _
    | exact LeO.none _
    | refine LeO.ite ?_ ?_
    | refine LeO.bind ?_ (fun _ => ?_)
  · intro y0 y1 y2 y3 y4
    unfold tumblerref02_Worth.l1
    repeat' first
    | (with_reducible exact ih0 _ _ _ _ _)
    | (with_reducible exact ih1 _ _ _ _ _)
    | (with_reducible exact ih2 _ _ _ _ _ _)
    | (with_reducible exact tumblerref02_Times.mono _ _ _ _ _)
    | (with_reducible exact LeO.refl _)
    | (with_reducible exact LeO.none _)
    | (with_reducible refine LeO.ite ?_ ?_)
    | (with_reducible refine LeO.bind ?_ (fun _ => ?_))
    | exact ih0 _ _ _ _ _
    | exact ih1 _ _ _ _ _
    | exact ih2 _ _ _ _ _ _
    | exact tumblerref02_Times.mono _ _ _ _ _
    | exact LeO.none _
    | refine LeO.ite ?_ ?_
    | refine LeO.bind ?_ (fun _ => ?_)
  · intro y0 y1 y2 y3 y4 y5
    unfold tumblerref02_Worth.j2
    repeat' first
    | (with_reducible exact ih0 _ _ _ _ _)
    | (with_reducible exact ih1 _ _ _ _ _)
    | (with_reducible exact ih2 _ _ _ _ _ _)
    | (with_reducible exact tumblerref02_Times.mono _ _ _ _ _)
    | (with_reducible exact LeO.refl _)
    | (with_reducible exact LeO.none _)
    | (with_reducible refine LeO.ite ?_ ?_)
    | (with_reducible refine LeO.bind ?_ (fun _ => ?_))
    | exact ih0 _ _ _ _ _
    | exact ih1 _ _ _ _ _
    | exact ih2 _ _ _ _ _ _
    | exact tumblerref02_Times.mono _ _ _ _ _
    | exact LeO.none _
    | refine LeO.ite ?_ ?_
    | refine LeO.bind ?_ (fun _ => ?_)
theorem tumblerref02_Worth.mono : ∀ a0 a1 a2 k, LeO (tumblerref02_Worth.f k a0 a1 a2) (tumblerref02_Worth.f (k + 1) a0 a1 a2) := by
 intro a0 a1 a2 k
 obtain ⟨ih0, ih1, ih2⟩ := tumblerref02_Worth.mono_l k
 unfold tumblerref02_Worth.f
 repeat' first
  | (with_reducible exact ih0 _ _ _ _ _)
  | (with_reducible exact ih1 _ _ _ _ _)
  | (with_reducible exact ih2 _ _ _ _ _ _)
  | (with_reducible exact tumblerref02_Times.mono _ _ _ _ _)
  | (with_reducible exact LeO.refl _)
  | (with_reducible exact LeO.none _)
  | (with_reducible refine LeO.ite ?_ ?_)
  | (with_reducible refine LeO.bind ?_ (fun _ => ?_))
  | exact ih0 _ _ _ _ _
  | exact ih1 _ _ _ _ _
  | exact ih2 _ _ _ _ _ _
  | exact tumblerref02_Times.mono _ _ _ _ _
  | exact LeO.none _
  | refine LeO.ite ?_ ?_
  | refine LeO.bind ?_ (fun _ => ?_)
def tumblerref02_Worth.T10 : Bool × List (List Nat × List Nat) := (true, [([], []), ([0], [0]), ([], []), ([], []), ([2, 3], [2, 3]), ([4], [4]), ([5], [5]), ([6], [6]), ([1, 7, 1], [1, 7]), ([8, 8, 0, 1, 2, 3, 4, 5, 6, 7, 8], [8])])
def tumblerref02_Worth.B10 : List Nat := [0, 1, 0, 0, 12, 28, 60, 124, 255, 511]
theorem tumblerref02_Worth.tab10 : rtab .any (opsOf Tryd.f117 10) = tumblerref02_Worth.T10 := by kernel_rfl
theorem tumblerref02_Worth.bits10 : waitsOk tumblerref02_Worth.T10.2 tumblerref02_Worth.B10 = true := by kernel_rfl
set_option maxHeartbeats 8000000 in
set_option maxRecDepth 100000 in
theorem tumblerref02_Worth.calls (k : Nat) (a0_0 : Bool) (a0_1 : ByteArray) (a0_2 : ByteArray) (r1 : Int) (r2 : Int) (r3 : Bool) (w : World) (h : tumblerref02_Worth.f k a0_0 a0_1 a0_2 = some (r1, r2, r3)) :
 Calls Tryd.prog 117 #[.agg #[.bool a0_0, .string a0_1, .string a0_2]] w fun e w' => e = .returned (.agg #[.int .u64 r1, .int .u64 r2, .bool r3]) ∧ Below w.heap.size w w' := by
 have hu133 := Tryd.underlying133; have hu93 := Tryd.underlying93; have HB := am (Below.refl w.heap.size w); have H : (if a0_1.size + a0_2.size ≤ 9223372036854775807 then (tumblerref02_Worth.l0 k (a0_1 ++ a0_2) (a0_2.size : Int) 0 0 false) else (none)) = some (r1, r2, r3) := h; clear h
 by_cases c2 : a0_1.size + a0_2.size ≤ 9223372036854775807
 · rw [if_pos c2] at H
   have c2b0 := eq_true c2; have c2b1 : decide (a0_1.size + a0_2.size ≤ 9223372036854775807) = true := decide_eq_true c2
   try have c2b2 : (9223372036854775807 < a0_1.size + a0_2.size) = False := eq_false (Nat.not_lt.2 c2)
   have H' := Aside0.mk H; clear H
   go_enter Tryd.func117, Tryd.ntmps117
   go_wp2_with (first | ((with_reducible refine gate_dst (N := 1) rfl ?_); refine box_event (by rfl) (N := 1) (by rfl) (cs := #[.bool a0_0, .string a0_1, .string a0_2]) (t := 133) (by go_simp <;> rfl) ?_; intro gb1074 hg w3 hbox hb; have BK1074 := am (hbox); have GW1074 := gw w hg; replace HB := am (below_step bz hb); clear hb hbox hg) | ((with_reducible refine gate_dst (N := 2) rfl ?_); refine box_event (by rfl) (N := 2) (by rfl) (cs := #[.int .u64 0, .int .u64 0, .bool false]) (t := 93) (by go_simp <;> rfl) ?_; intro gb1075 hg w4 hbox hb; have BK1075 := am (hbox); have GW1075 := gw w hg; replace HB := am (below_step bz hb); have NB1074_1075 := nl BK1074 hg; have NB1075_1074 := nr BK1074 hg; replace BK1074 := am (bb BK1074 hb); clear hb hbox hg) | ((with_reducible refine gate_dst (N := 3) rfl ?_); refine box_event (by rfl) (N := 3) (by rfl) (cs := #[.int .u64 0, .int .u64 0, .bool false]) (t := 93) (by go_simp <;> rfl) ?_; intro gb1076 hg w5 hbox hb; have BK1076 := am (hbox); have GW1076 := gw w hg; replace HB := am (below_step bz hb); have NB1074_1076 := nl BK1074 hg; have NB1076_1074 := nr BK1074 hg; replace BK1074 := am (bb BK1074 hb); have NB1075_1076 := nl BK1075 hg; have NB1076_1075 := nr BK1075 hg; replace BK1075 := am (bb BK1075 hb); clear hb hbox hg; have hnb6 := NB1076_1074.out; have hnc6 := NB1074_1076.out; have hnb7 := NB1076_1075.out; have hnc7 := NB1075_1076.out; have hcz8_0 : w5.cell? ⟨gb1076, 0, none⟩ = some (.int .u64 0) := bc BK1076 0; have hcz8_1 : w5.cell? ⟨gb1076, 1, none⟩ = some (.int .u64 0) := bc BK1076 1; have hcz8_2 : w5.cell? ⟨gb1076, 2, none⟩ = some (.bool false) := bc BK1076 2; have hfz8_0 := blk_frozen BK1076.out 0; have hfz8_1 := blk_frozen BK1076.out 1; have hfz8_2 := blk_frozen BK1076.out 2; have hnb9 := NB1074_1075.out; have hnc9 := NB1075_1074.out; have hcz10_0 : w5.cell? ⟨gb1074, 0, none⟩ = some (.bool a0_0) := bc BK1074 0; have hcz10_1 : w5.cell? ⟨gb1074, 1, none⟩ = some (.string a0_1) := bc BK1074 1; have hcz10_2 : w5.cell? ⟨gb1074, 2, none⟩ = some (.string a0_2) := bc BK1074 2; have hfz10_0 := blk_frozen BK1074.out 0; have hfz10_1 := blk_frozen BK1074.out 1; have hfz10_2 := blk_frozen BK1074.out 2))
   go_loopg [4, 5] k (fun kq v4 v5 w' => ∃ (x4_1 : ByteArray) (x5_1 : Int), v4 = .string x4_1 ∧ v5 = .int .i64 x5_1 ∧ Aside0 (tumblerref02_Worth.l0 kq x4_1 x5_1 0 0 false = some (r1, r2, r3)) ∧ Aside0 (kq ≤ k) ∧ Aside0 (w'.heap[gb1074]? = some (.cells #[.bool a0_0, .string a0_1, .string a0_2] 133 (0, 0))) ∧ Aside0 (w'.heap[gb1075]? = some (.cells #[.int .u64 0, .int .u64 0, .bool false] 93 (0, 0))) ∧ Aside0 (w'.heap[gb1076]? = some (.cells #[.int .u64 0, .int .u64 0, .bool false] 93 (0, 0))) ∧ Aside0 (Below w.heap.size w w'))
   case atStart => exact ⟨(a0_1 ++ a0_2), ((a0_2.size : Int)), rs, rs, H', ⟨Nat.le_refl _⟩, kf, kf, ⟨blk_put (blk_put (blk_put BK1076.out 0 _ rfl) 1 _ rfl) 2 _ rfl⟩, ⟨bz⟩⟩
   case round =>
    clear H'
    try clear c1
    try clear c2
    try clear c2b0
    try clear c2b1
    try clear c2b2
    try clear p2
    try clear c6
    try clear c7
    try clear c9
    try clear hcz10_0
    try clear hcz10_1
    try clear hcz10_2
    try clear hcz8_0
    try clear hcz8_1
    try clear hcz8_2
    try clear hfz10_0
    try clear hfz10_1
    try clear hfz10_2
    try clear hfz8_0
    try clear hfz8_1
    try clear hfz8_2
    obtain ⟨x4_1, x5_1, rfl, rfl, HA, HK1, BK1074, BK1075, BK1076, HB⟩ := hrel
    cases gk with
    | zero => exact absurd HA.out (by simp [tumblerref02_Worth.l0])
    | succ k1 =>
     have H := HA.out; clear HA
     simp only [tumblerref02_Worth.l0] at H
     by_cases c11 : x5_1 < 6
     · rw [if_pos c11] at H
       have c11b0 : decide (x5_1 < 6) = true := decide_eq_true c11; clear c11
       by_cases c12 : x4_1.size + 1 ≤ 9223372036854775807
       · rw [if_pos c12] at H
         have c12b0 := eq_true c12; have c12b1 : decide (x4_1.size + 1 ≤ 9223372036854775807) = true := decide_eq_true c12
         try have c12b2 : (9223372036854775807 < x4_1.size + 1) = False := eq_false (Nat.not_lt.2 c12)
         have H' := Aside0.mk H; clear H
         go_wp2
         go_roundg k1
         case measure => have := HK1.out; omega
         case rel => exact ⟨(x4_1 ++ (⟨#[48]⟩ : ByteArray)), (wrap64 (x5_1 + 1)), rs, rs, H', ⟨by have := HK1.out; omega⟩, kf, kf, kf, ⟨bz⟩⟩
       · rw [if_neg c12] at H
         exact absurd H (by simp)
     · rw [if_neg c11] at H
       have c11b0 : decide (x5_1 < 6) = false := decide_eq_false c11; clear c11; have H' := Aside0.mk H; clear H
       go_wp2
       go_loopg [6] k1 (fun kq v6 w' => ∃ (x6_2 : Int) (x1077000_2 : Int) (x1077001_2 : Int) (x1077002_2 : Bool), v6 = .int .i64 x6_2 ∧ Aside0 (tumblerref02_Worth.l1 kq x4_1 x6_2 x1077000_2 x1077001_2 x1077002_2 = some (r1, r2, r3)) ∧ Aside0 (kq ≤ k1) ∧ Aside0 (w'.heap[gb1074]? = some (.cells #[.bool a0_0, .string a0_1, .string a0_2] 133 (0, 0))) ∧ Aside0 (w'.heap[gb1075]? = some (.cells #[.int .u64 0, .int .u64 0, .bool false] 93 (0, 0))) ∧ Aside0 (w'.heap[gb1076]? = some (.cells #[.int .u64 x1077000_2, .int .u64 x1077001_2, .bool x1077002_2] 93 (0, 0))) ∧ Aside0 (Below w.heap.size w w'))
       case atStart => exact ⟨(0), (0), (0), (false), rs, H', ⟨Nat.le_refl _⟩, kf, kf, kf, ⟨bz⟩⟩
       case round =>
        clear H'
        try clear c1
        try clear c2
        try clear c2b0
        try clear c2b1
        try clear c2b2
        try clear p2
        try clear c6
        try clear p6
        try clear c7
        try clear c9
        try clear c11
        try clear c11b0
        try clear c12
        try clear c12b0
        try clear c12b1
        try clear c12b2
        try clear hcz10_0
        try clear hcz10_1
        try clear hcz10_2
        try clear hcz8_0
        try clear hcz8_1
        try clear hcz8_2
        try clear hfz10_0
        try clear hfz10_1
        try clear hfz10_2
        try clear hfz8_0
        try clear hfz8_1
        try clear hfz8_2
        try clear p2
        obtain ⟨x6_2, x1077000_2, x1077001_2, x1077002_2, rfl, HA, HK2, BK1074, BK1075, BK1076, HB⟩ := hrel
        cases gk with
        | zero => exact absurd HA.out (by simp [tumblerref02_Worth.l1])
        | succ k2 =>
         have H := HA.out; clear HA
         simp only [tumblerref02_Worth.l1] at H
         have HC13 := Aside0.mk H; clear H
         go_upto_region 8 with (fail)
         go_cut [30] (fun v30 wc => ∃ (kq : Nat) (x30_12 : Bool), v30 = .bool x30_12 ∧ Aside0 (tumblerref02_Worth.j2 kq x4_1 x6_2 x30_12 x1077000_2 x1077001_2 x1077002_2 = some (r1, r2, r3)) ∧ Aside0 (kq ≤ k2) ∧ Aside0 (wc.heap[gb1074]? = some (.cells #[.bool a0_0, .string a0_1, .string a0_2] 133 (0, 0))) ∧ Aside0 (wc.heap[gb1075]? = some (.cells #[.int .u64 0, .int .u64 0, .bool false] 93 (0, 0))) ∧ Aside0 (wc.heap[gb1076]? = some (.cells #[.int .u64 x1077000_2, .int .u64 x1077001_2, .bool x1077002_2] 93 (0, 0))) ∧ Aside0 (Below w.heap.size w wc))
         case first =>
          have H := HC13.out; clear HC13
          by_cases c14 : x6_2 < (x4_1.size : Int)
          · rw [if_pos c14] at H
            have c14b0 : decide (x6_2 < (x4_1.size : Int)) = true := decide_eq_true c14; clear c14
            (first | rw [c14b0] | (simp only [i64_w, i32_w]; rw [c14b0]) | skip)
            have H' := Aside0.mk H; clear H; have hnb15 := NB1076_1074.out; have hnc15 := NB1074_1076.out; have hnb16 := NB1076_1075.out; have hnc16 := NB1075_1076.out; have hcz17_0 : wr.cell? ⟨gb1076, 0, none⟩ = some (.int .u64 x1077000_2) := bc BK1076 0; have hcz17_1 : wr.cell? ⟨gb1076, 1, none⟩ = some (.int .u64 x1077001_2) := bc BK1076 1; have hcz17_2 : wr.cell? ⟨gb1076, 2, none⟩ = some (.bool x1077002_2) := bc BK1076 2; have hfz17_0 := blk_frozen BK1076.out 0; have hfz17_1 := blk_frozen BK1076.out 1; have hfz17_2 := blk_frozen BK1076.out 2
            go_wp2
            go_meet
            case rel => exact ⟨_, (!x1077002_2), rs, H', ⟨by have := HK1.out; have := HK2.out; first | omega | exact Nat.le_refl _⟩, kf, kf, kf, ⟨bz⟩⟩
          · rw [if_neg c14] at H
            have c14b0 : decide (x6_2 < (x4_1.size : Int)) = false := decide_eq_false c14; clear c14
            (first | rw [c14b0] | (simp only [i64_w, i32_w]; rw [c14b0]) | skip)
            have H' := Aside0.mk H; clear H
            go_wp2
            go_meet
            case rel => exact ⟨_, (false), rs, H', ⟨by have := HK1.out; have := HK2.out; first | omega | exact Nat.le_refl _⟩, kf, kf, kf, ⟨bz⟩⟩
         case rest =>
          clear HC13
          try clear c1
          try clear c2
          try clear c2b0
          try clear c2b1
          try clear c2b2
          try clear p2
          try clear c6
          try clear p6
          try clear c7
          try clear c9
          try clear c11
          try clear c11b0
          try clear c12
          try clear c12b0
          try clear c12b1
          try clear c12b2
          try clear c14
          try clear c14b0
          try clear c15
          try clear c16
          try clear hcz10_0
          try clear hcz10_1
          try clear hcz10_2
          try clear hcz17_0
          try clear hcz17_1
          try clear hcz17_2
          try clear hcz8_0
          try clear hcz8_1
          try clear hcz8_2
          try clear hfz10_0
          try clear hfz10_1
          try clear hfz10_2
          try clear hfz17_0
          try clear hfz17_1
          try clear hfz17_2
          try clear hfz8_0
          try clear hfz8_1
          try clear hfz8_2
          try clear p2
          try clear p6
          obtain ⟨kq, x30_12, rfl, HA, HJ12, BK1074, BK1075, BK1076, HB⟩ := hcut
          cases kq with
          | zero => exact absurd HA.out (by simp [tumblerref02_Worth.j2])
          | succ kj12 =>
           have H := HA.out; clear HA
           simp only [tumblerref02_Worth.j2] at H
           by_cases c18 : x30_12 = true
           · subst c18
             have H1 : ((tumblerref02_Times.f kj12 x1077000_2 x1077001_2 x1077002_2 10).bind fun bt1077 => (if 0 ≤ x6_2 then (if x6_2 < (x4_1.size : Int) then ((tumblerref02_Plus.f bt1077.1 bt1077.2.1 bt1077.2.2 0 (((bt x4_1 x6_2) - 48) % 256) false).bind fun bt1080 => (tumblerref02_Worth.l1 kj12 x4_1 (wrap64 (x6_2 + 1)) bt1080.1 bt1080.2.1 bt1080.2.2)) else (none)) else (none))) = some (r1, r2, r3) := by rw [if_pos rfl] at H; exact H
             clear H; have H := H1; clear H1
             replace H := Option.bind_eq_some_iff.mp H
             obtain ⟨⟨t1077, t1078, t1079⟩, A190, H⟩ := H
             replace H : (if 0 ≤ x6_2 then (if x6_2 < (x4_1.size : Int) then ((tumblerref02_Plus.f t1077 t1078 t1079 0 (((bt x4_1 x6_2) - 48) % 256) false).bind fun bt1080 => (tumblerref02_Worth.l1 kj12 x4_1 (wrap64 (x6_2 + 1)) bt1080.1 bt1080.2.1 bt1080.2.2)) else (none)) else (none)) = some (r1, r2, r3) := H
             have A19 := Aside0.mk A190; clear A190
             by_cases c20 : 0 ≤ x6_2
             · rw [if_pos c20] at H
               have c20b0 : decide (0 ≤ x6_2) = true := decide_eq_true c20; clear c20
               by_cases c21 : x6_2 < (x4_1.size : Int)
               · rw [if_pos c21] at H
                 have c21b0 : decide (x6_2 < (x4_1.size : Int)) = true := decide_eq_true c21; clear c21
                 replace H := Option.bind_eq_some_iff.mp H
                 obtain ⟨⟨t1080, t1081, t1082⟩, A230, H⟩ := H
                 replace H : (tumblerref02_Worth.l1 kj12 x4_1 (wrap64 (x6_2 + 1)) t1080 t1081 t1082) = some (r1, r2, r3) := H
                 have A23 := Aside0.mk A230; clear A230; have H' := Aside0.mk H; clear H
                 try go_wp2
                 replace BK1074 := am (blk_drew BK1074.out); replace BK1075 := am (blk_drew BK1075.out); replace BK1076 := am (blk_drew BK1076.out); replace HB := am (below_drew1 HB.out); have p22 : 0 ≤ (x6_2 : Int) := of_decide_eq_true (by first | (with_reducible assumption) | assumption); have q22 : x6_2 < (x4_1.size : Int) := of_decide_eq_true (by first | (with_reducible assumption) | assumption); have hx22 := bt_at x4_1 x6_2
                 replace p22 := eq_true p22
                 replace q22 := eq_true q22
                 refine start_ (n := 10) (S := fun w' => w'.cell? ⟨gb1076, 0, none⟩ = some (.int .u64 x1077000_2) ∧ w'.cell? ⟨gb1076, 1, none⟩ = some (.int .u64 x1077001_2) ∧ w'.cell? ⟨gb1076, 2, none⟩ = some (.bool x1077002_2)) (ds := [9]) #[false, false, false, false, false, false, false, false, false, false] (by kernel_rfl) rfl rfl ⟨bc BK1076 0, bc BK1076 1, bc BK1076 2⟩ (fun hHeld => ?_); refine with_tabW tumblerref02_Worth.tab10 tumblerref02_Worth.bits10 (fun HT_ HW_ => ?_)
                 generalize wc.drew = w24 at BK1074 BK1075 BK1076 HB hHeld ⊢
                 refine pure_ (i := 2) (N := some 35) (v := ?_) (a' := ?_) #[false, false, true, false, false, false, false, false, false, false] rfl rfl (any_of HT_.out (by kernel_rfl)) (fun _ _ _ h => h) (Or.inl ⟨by rfl, ?_⟩) ?_ ?_
                 rotate_left; · intro w'; go_simp; with_reducible rfl
                 rotate_left; · simp only [Act.put, List.setIfInBounds_toArray, List.set_cons_zero, List.set_cons_succ, i64_w, i32_w]; rfl
                 refine pure_ (i := 3) (N := some 36) (v := ?_) (a' := ?_) #[false, false, true, true, false, false, false, false, false, false] rfl rfl (any_of HT_.out (by kernel_rfl)) (fun _ _ _ h => h) (Or.inl ⟨by rfl, ?_⟩) ?_ ?_
                 rotate_left; · intro w'; go_simp; with_reducible rfl
                 rotate_left; · simp only [Act.put, List.setIfInBounds_toArray, List.set_cons_zero, List.set_cons_succ, i64_w, i32_w]; rfl
                 refine take_ (i := 0) (N := some 33) (v := ?_) (a' := ?_) #[true, false, true, true, false, false, false, false, false, false] rfl rfl (take_ofW HT_.out HW_.out (by kernel_rfl)) (fun _ _ _ h => h) (Or.inl ⟨by rfl, ?_⟩) hHeld ?_ ?_
                 rotate_left
                 · rintro w' ⟨s0, s1, s2⟩
                   go_simp
                   with_reducible rfl
                 rotate_left
                 · simp only [Act.put, List.setIfInBounds_toArray, List.set_cons_zero, List.set_cons_succ, i64_w, i32_w]
                   rfl
                 refine take_ (i := 4) (N := some 37) (v := ?_) (a' := ?_) #[true, false, true, true, true, false, false, false, false, false] rfl rfl (take_ofW HT_.out HW_.out (by kernel_rfl)) (fun _ _ _ h => h) (Or.inl ⟨by rfl, ?_⟩) hHeld ?_ ?_
                 rotate_left
                 · rintro w' ⟨s0, s1, s2⟩
                   go_simp
                   with_reducible rfl
                 rotate_left
                 · simp only [Act.put, List.setIfInBounds_toArray, List.set_cons_zero, List.set_cons_succ, i64_w, i32_w]
                   rfl
                 refine pure_ (i := 5) (N := some 38) (v := ?_) (a' := ?_) #[true, false, true, true, true, true, false, false, false, false] rfl rfl (any_of HT_.out (by kernel_rfl)) (fun _ _ _ h => h) (Or.inl ⟨by rfl, ?_⟩) ?_ ?_
                 rotate_left; · intro w'; go_simp; with_reducible rfl
                 rotate_left; · simp only [Act.put, List.setIfInBounds_toArray, List.set_cons_zero, List.set_cons_succ, i64_w, i32_w]; rfl
                 refine pure_ (i := 6) (N := some 39) (v := ?_) (a' := ?_) #[true, false, true, true, true, true, true, false, false, false] rfl rfl (any_of HT_.out (by kernel_rfl)) (fun _ _ _ h => h) (Or.inl ⟨by rfl, ?_⟩) ?_ ?_
                 rotate_left; · intro w'; go_simp; with_reducible rfl
                 rotate_left; · simp only [Act.put, List.setIfInBounds_toArray, List.set_cons_zero, List.set_cons_succ, i64_w, i32_w]; rfl
                 refine pure_ (i := 7) (N := some 40) (v := ?_) (a' := ?_) #[true, false, true, true, true, true, true, true, false, false] rfl rfl (any_of HT_.out (by kernel_rfl)) (fun _ _ _ h => h) (Or.inl ⟨by rfl, ?_⟩) ?_ ?_
                 rotate_left; · intro w'; go_simp; with_reducible rfl
                 rotate_left; · simp only [Act.put, List.setIfInBounds_toArray, List.set_cons_zero, List.set_cons_succ, i64_w, i32_w]; rfl
                 refine one_ (i := 1) (N := some 34) #[true, true, true, true, true, true, true, true, false, false] rfl rfl (one_of HT_.out (by kernel_rfl)) (by decide) (fun K hK => ?_)
                 refine goes_ Tryd.func128 (by kernel_rfl) rfl #[.agg #[.int .u64 x1077000_2, .int .u64 x1077001_2, .bool x1077002_2], .int .u64 10] (by rfl) rfl rfl rf ?_
                 with_reducible refine (tumblerref02_Times.calls kj12 x1077000_2 x1077001_2 x1077002_2 10 t1077 t1078 t1079 _ A19.out).mono ?_
                 rintro e w25 ⟨rfl, hb⟩; refine ⟨_, rfl, ?_⟩; replace BK1074 := am (bb BK1074 hb); replace BK1075 := am (bb BK1075 hb); replace BK1076 := am (bb BK1076 hb); replace HB := am (below_step bz hb); (try clear hb); (try clear hb2); (try clear hk); (try clear hi)
                 refine hK.out _ _ ⟨bc BK1076 0, bc BK1076 1, bc BK1076 2⟩ (fun hHeld => ?_)
                 clear hK K
                 refine norm_ (a' := ?_) ?_ ?_
                 rotate_left
                 · show Act.put _ (some 34) _ = _
                   simp only [Act.put, List.setIfInBounds_toArray, List.set_cons_zero, List.set_cons_succ, i64_w, i32_w]
                   rfl
                 refine one_ (i := 8) (N := some 41) #[true, true, true, true, true, true, true, true, true, false] rfl rfl (one_of HT_.out (by kernel_rfl)) (by decide) (fun K hK => ?_)
                 refine goes_ Tryd.func113 (by kernel_rfl) rfl #[.agg #[.int .u64 t1077, .int .u64 t1078, .bool t1079], .agg #[.int .u64 0, .int .u64 (((bt x4_1 x6_2) - 48) % 256), .bool false]] (by rfl) rfl rfl (by (try simp only [List.map_toArray, List.map_cons, List.map_nil]); first | done | rfl | (simp only [List.length_drop, List.length_take]; rfl) | (simp only [← u64_u8]; rfl)) ?_
                 with_reducible refine (tumblerref02_Plus.calls t1077 t1078 t1079 0 (((bt x4_1 x6_2) - 48) % 256) false t1080 t1081 t1082 _ A23.out).mono ?_
                 rintro e w26 ⟨rfl, hb⟩; refine ⟨_, rfl, ?_⟩; replace BK1074 := am (bb BK1074 hb); replace BK1075 := am (bb BK1075 hb); replace BK1076 := am (bb BK1076 hb); replace HB := am (below_step bz hb); (try clear hb); (try clear hb2); (try clear hk); (try clear hi)
                 refine hK.out _ _ ⟨bc BK1076 0, bc BK1076 1, bc BK1076 2⟩ (fun hHeld => ?_)
                 clear hK K
                 refine norm_ (a' := ?_) ?_ ?_
                 rotate_left
                 · show Act.put _ (some 41) _ = _
                   simp only [Act.put, List.setIfInBounds_toArray, List.set_cons_zero, List.set_cons_succ, i64_w, i32_w]
                   rfl
                 refine last_ (i := 9) (N := none) #[true, true, true, true, true, true, true, true, true, true] rfl rfl (one_of HT_.out (by kernel_rfl)) (by decide) (fun K hK => ?_)
                 have hs27 : w26.cell? ⟨gb1076, 0, none⟩ = some (.int .u64 x1077000_2) := bc BK1076 0; have hfs27 := blk_frozen BK1076.out 0; have hns27_0 := NB1074_1076.out; have hns27_1 := NB1075_1076.out; have hms27_0 := NB1076_1074.out; have hms27_1 := NB1076_1075.out; have hs28 : w26.cell? ⟨gb1076, 1, none⟩ = some (.int .u64 x1077001_2) := bc BK1076 1; have hfs28 := blk_frozen BK1076.out 1; have hns28_0 := NB1074_1076.out; have hns28_1 := NB1075_1076.out; have hms28_0 := NB1076_1074.out; have hms28_1 := NB1076_1075.out; have hs29 : w26.cell? ⟨gb1076, 2, none⟩ = some (.bool x1077002_2) := bc BK1076 2; have hfs29 := blk_frozen BK1076.out 2; have hns29_0 := NB1074_1076.out; have hns29_1 := NB1075_1076.out; have hms29_0 := NB1076_1074.out; have hms29_1 := NB1076_1075.out
                 refine skip_ (w1 := ?_) (by rfl) rfl ?_ ?_
                 rotate_left
                 · go_simp
                   rfl
                 refine hK.out _ _ ?_
                 clear hK K
                 refine done_ (done_of HT_.out (by kernel_rfl)) ?_
                 try go_wp2
                 go_roundg kj12
                 case measure => have := HK1.out; have := HK2.out; have := HJ12.out; omega
                 case rel => exact ⟨(wrap64 (x6_2 + 1)), (t1080), (t1081), (t1082), rs, H', ⟨by have := HK1.out; have := HK2.out; have := HJ12.out; omega⟩, kf, kf, ⟨blk_put (blk_put (blk_put BK1076.out 0 _ rfl) 1 _ rfl) 2 _ rfl⟩, ⟨bz⟩⟩
               · rw [if_neg c21] at H
                 exact absurd H (by simp)
             · rw [if_neg c20] at H
               exact absurd H (by simp)
           · replace c18 := Bool.eq_false_iff.mpr c18
             subst c18
             have H1 : (some (x1077000_2, x1077001_2, x1077002_2)) = some (r1, r2, r3) := by rw [if_neg (show ¬ (false = true) by decide)] at H; exact H
             clear H; have H := H1; clear H1
             simp only [Option.some.injEq, Prod.mk.injEq] at H
             obtain ⟨rfl, rfl, rfl⟩ := H
             have hnb30 := NB1076_1074.out; have hnc30 := NB1074_1076.out; have hnb31 := NB1076_1075.out; have hnc31 := NB1075_1076.out; have hcz32_0 : wc.cell? ⟨gb1076, 0, none⟩ = some (.int .u64 x1077000_2) := bc BK1076 0; have hcz32_1 : wc.cell? ⟨gb1076, 1, none⟩ = some (.int .u64 x1077001_2) := bc BK1076 1; have hcz32_2 : wc.cell? ⟨gb1076, 2, none⟩ = some (.bool x1077002_2) := bc BK1076 2; have hfz32_0 := blk_frozen BK1076.out 0; have hfz32_1 := blk_frozen BK1076.out 1; have hfz32_2 := blk_frozen BK1076.out 2; have hnb33 := NB1075_1074.out; have hnc33 := NB1074_1075.out; have hcz34_0 : wc.cell? ⟨gb1075, 0, none⟩ = some (.int .u64 0) := bc BK1075 0; have hcz34_1 : wc.cell? ⟨gb1075, 1, none⟩ = some (.int .u64 0) := bc BK1075 1; have hcz34_2 : wc.cell? ⟨gb1075, 2, none⟩ = some (.bool false) := bc BK1075 2; have hfz34_0 := blk_frozen BK1075.out 0; have hfz34_1 := blk_frozen BK1075.out 1; have hfz34_2 := blk_frozen BK1075.out 2
             go_wp2
             refine bodyPost_ret (results_cell_row rfl _ _ gb1075 93 #[.int .u64 x1077000_2, .int .u64 x1077001_2, .bool x1077002_2] (0, 0) _ rfl (blk_put (blk_put (blk_put BK1075.out 0 _ rfl) 1 _ rfl) 2 _ rfl) Tryd.underlying93 rfl (by kernel_rfl)) rfl ?_
             exact ⟨rg, bz⟩
 · rw [if_neg c2] at H
   exact absurd H (by simp)

end Go.Proofs.YtcfhmbhlibhlnaaDoor.P
