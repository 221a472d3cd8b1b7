-- Printed by this session's own pp.py (wip/tool) out of the translation.
import Derived.Test.YtcfhmbhlibhlnaaDoorPx0
namespace Go.Proofs.YtcfhmbhlibhlnaaDoor.P
open Go.RowKit Go.Proofs.YtcfhmbhlibhlnaaDoorW.PrintWords Go.Proofs.YtcfhmbhlibhlnaaDoorW.PrintLast Go.Proofs.YtcfhmbhlibhlnaaDoorW.PrintMore Go.Proofs.YtcfhmbhlibhlnaaDoor.Mine
attribute [local go_sem] ext71 ext79 eqA61 eqA62
attribute [local go_sem] max2_int min2_int max_two min_two max_three min_three max_four min_four   -- for this text's walks alone
set_option linter.unusedVariables false
set_option linter.unusedSimpArgs false

/-! ### wide_divided: function 65 -/
mutual
def wide_divided.l0 : Nat → Int → Int → Int → Int → Int → Int → Int → Int → Int → Option (Int × Int × Int × Int)
 | 0, _, _, _, _, _, _, _, _, _ => none
 | k + 1, x8, x104000, x104001, x105000, x105001, x108000, x108001, x109000, x109001 => if x8 ≥ 0 then (if (wrap64 (Int.tdiv x8 64)) = 0 then (if 0 ≤ (IntKind.u64.wrap (Int.tmod x8 64)) then (if (x109001 / 9223372036854775808) = 1 then (wide_divided.j1 k x8 true x104000 x104001 x105000 x105001 x108000 x108001 (Go.bits .or .u64 (IntKind.u64.wrap (x109000 * 2)) (Go.bits .and .u64 (shr .u64 x104000 (IntKind.u64.wrap (Int.tmod x8 64))) 1)) (Go.bits .or .u64 (IntKind.u64.wrap (x109001 * 2)) (x109000 / 9223372036854775808))) else (if (Go.bits .or .u64 (IntKind.u64.wrap (x109001 * 2)) (x109000 / 9223372036854775808)) > x105001 then (wide_divided.j1 k x8 true x104000 x104001 x105000 x105001 x108000 x108001 (Go.bits .or .u64 (IntKind.u64.wrap (x109000 * 2)) (Go.bits .and .u64 (shr .u64 x104000 (IntKind.u64.wrap (Int.tmod x8 64))) 1)) (Go.bits .or .u64 (IntKind.u64.wrap (x109001 * 2)) (x109000 / 9223372036854775808))) else (if (Go.bits .or .u64 (IntKind.u64.wrap (x109001 * 2)) (x109000 / 9223372036854775808)) = x105001 then (wide_divided.j1 k x8 (decide ((Go.bits .or .u64 (IntKind.u64.wrap (x109000 * 2)) (Go.bits .and .u64 (shr .u64 x104000 (IntKind.u64.wrap (Int.tmod x8 64))) 1)) ≥ x105000)) x104000 x104001 x105000 x105001 x108000 x108001 (Go.bits .or .u64 (IntKind.u64.wrap (x109000 * 2)) (Go.bits .and .u64 (shr .u64 x104000 (IntKind.u64.wrap (Int.tmod x8 64))) 1)) (Go.bits .or .u64 (IntKind.u64.wrap (x109001 * 2)) (x109000 / 9223372036854775808))) else (wide_divided.j1 k x8 false x104000 x104001 x105000 x105001 x108000 x108001 (Go.bits .or .u64 (IntKind.u64.wrap (x109000 * 2)) (Go.bits .and .u64 (shr .u64 x104000 (IntKind.u64.wrap (Int.tmod x8 64))) 1)) (Go.bits .or .u64 (IntKind.u64.wrap (x109001 * 2)) (x109000 / 9223372036854775808)))))) else (none)) else (if (wrap64 (Int.tdiv x8 64)) = 1 then (if 0 ≤ (IntKind.u64.wrap (Int.tmod x8 64)) then (if (x109001 / 9223372036854775808) = 1 then (wide_divided.j2 k x8 true x104000 x104001 x105000 x105001 x108000 x108001 (Go.bits .or .u64 (IntKind.u64.wrap (x109000 * 2)) (Go.bits .and .u64 (shr .u64 x104001 (IntKind.u64.wrap (Int.tmod x8 64))) 1)) (Go.bits .or .u64 (IntKind.u64.wrap (x109001 * 2)) (x109000 / 9223372036854775808))) else (if (Go.bits .or .u64 (IntKind.u64.wrap (x109001 * 2)) (x109000 / 9223372036854775808)) > x105001 then (wide_divided.j2 k x8 true x104000 x104001 x105000 x105001 x108000 x108001 (Go.bits .or .u64 (IntKind.u64.wrap (x109000 * 2)) (Go.bits .and .u64 (shr .u64 x104001 (IntKind.u64.wrap (Int.tmod x8 64))) 1)) (Go.bits .or .u64 (IntKind.u64.wrap (x109001 * 2)) (x109000 / 9223372036854775808))) else (if (Go.bits .or .u64 (IntKind.u64.wrap (x109001 * 2)) (x109000 / 9223372036854775808)) = x105001 then (wide_divided.j2 k x8 (decide ((Go.bits .or .u64 (IntKind.u64.wrap (x109000 * 2)) (Go.bits .and .u64 (shr .u64 x104001 (IntKind.u64.wrap (Int.tmod x8 64))) 1)) ≥ x105000)) x104000 x104001 x105000 x105001 x108000 x108001 (Go.bits .or .u64 (IntKind.u64.wrap (x109000 * 2)) (Go.bits .and .u64 (shr .u64 x104001 (IntKind.u64.wrap (Int.tmod x8 64))) 1)) (Go.bits .or .u64 (IntKind.u64.wrap (x109001 * 2)) (x109000 / 9223372036854775808))) else (wide_divided.j2 k x8 false x104000 x104001 x105000 x105001 x108000 x108001 (Go.bits .or .u64 (IntKind.u64.wrap (x109000 * 2)) (Go.bits .and .u64 (shr .u64 x104001 (IntKind.u64.wrap (Int.tmod x8 64))) 1)) (Go.bits .or .u64 (IntKind.u64.wrap (x109001 * 2)) (x109000 / 9223372036854775808)))))) else (none)) else (none))) else (some (x108000, x108001, x109000, x109001))
def wide_divided.j1 : Nat → Int → Bool → Int → Int → Int → Int → Int → Int → Int → Int → Option (Int × Int × Int × Int)
 | 0, _, _, _, _, _, _, _, _, _, _ => none
 | k + 1, x8, x64, x104000, x104001, x105000, x105001, x108000, x108001, x109000, x109001 => if x64 = true then (if (subHi x109000 x105000 0) ≤ 1 then (if (wrap64 (Int.tdiv x8 64)) = 0 then (if 0 ≤ (IntKind.u64.wrap (Int.tmod x8 64)) then (wide_divided.l0 k (wrap64 (x8 - 1)) x104000 x104001 x105000 x105001 (Go.bits .or .u64 x108000 (shl .u64 1 (IntKind.u64.wrap (Int.tmod x8 64)))) x108001 (subLo x109000 x105000 0) (subLo x109001 x105001 (subHi x109000 x105000 0))) else (none)) else (if (wrap64 (Int.tdiv x8 64)) = 1 then (if 0 ≤ (IntKind.u64.wrap (Int.tmod x8 64)) then (wide_divided.l0 k (wrap64 (x8 - 1)) x104000 x104001 x105000 x105001 x108000 (Go.bits .or .u64 x108001 (shl .u64 1 (IntKind.u64.wrap (Int.tmod x8 64)))) (subLo x109000 x105000 0) (subLo x109001 x105001 (subHi x109000 x105000 0))) else (none)) else (none))) else (none)) else (wide_divided.l0 k (wrap64 (x8 - 1)) x104000 x104001 x105000 x105001 x108000 x108001 x109000 x109001)
def wide_divided.j2 : Nat → Int → Bool → Int → Int → Int → Int → Int → Int → Int → Int → Option (Int × Int × Int × Int)
 | 0, _, _, _, _, _, _, _, _, _, _ => none
 | k + 1, x8, x64, x104000, x104001, x105000, x105001, x108000, x108001, x109000, x109001 => if x64 = true then (if (subHi x109000 x105000 0) ≤ 1 then (if (wrap64 (Int.tdiv x8 64)) = 0 then (if 0 ≤ (IntKind.u64.wrap (Int.tmod x8 64)) then (wide_divided.l0 k (wrap64 (x8 - 1)) x104000 x104001 x105000 x105001 (Go.bits .or .u64 x108000 (shl .u64 1 (IntKind.u64.wrap (Int.tmod x8 64)))) x108001 (subLo x109000 x105000 0) (subLo x109001 x105001 (subHi x109000 x105000 0))) else (none)) else (if (wrap64 (Int.tdiv x8 64)) = 1 then (if 0 ≤ (IntKind.u64.wrap (Int.tmod x8 64)) then (wide_divided.l0 k (wrap64 (x8 - 1)) x104000 x104001 x105000 x105001 x108000 (Go.bits .or .u64 x108001 (shl .u64 1 (IntKind.u64.wrap (Int.tmod x8 64)))) (subLo x109000 x105000 0) (subLo x109001 x105001 (subHi x109000 x105000 0))) else (none)) else (none))) else (none)) else (wide_divided.l0 k (wrap64 (x8 - 1)) x104000 x104001 x105000 x105001 x108000 x108001 x109000 x109001)
end
def wide_divided.f (k : Nat) (a0_0 : Int) (a0_1 : Int) (a1_0 : Int) (a1_1 : Int) : Option (Int × Int × Int × Int) := wide_divided.l0 k 127 a0_0 a0_1 a1_0 a1_1 0 0 0 0
theorem wide_divided.mono_l : ∀ k, (∀ y0 y1 y2 y3 y4 y5 y6 y7 y8, LeO (wide_divided.l0 k y0 y1 y2 y3 y4 y5 y6 y7 y8) (wide_divided.l0 (k + 1) y0 y1 y2 y3 y4 y5 y6 y7 y8)) ∧ (∀ y0 y1 y2 y3 y4 y5 y6 y7 y8 y9, LeO (wide_divided.j1 k y0 y1 y2 y3 y4 y5 y6 y7 y8 y9) (wide_divided.j1 (k + 1) y0 y1 y2 y3 y4 y5 y6 y7 y8 y9)) ∧ (∀ y0 y1 y2 y3 y4 y5 y6 y7 y8 y9, LeO (wide_divided.j2 k y0 y1 y2 y3 y4 y5 y6 y7 y8 y9) (wide_divided.j2 (k + 1) y0 y1 y2 y3 y4 y5 y6 y7 y8 y9))
 | 0 => ⟨fun _ _ _ _ _ _ _ _ _ r h => by simp [wide_divided.l0] at h, fun _ _ _ _ _ _ _ _ _ _ r h => by simp [wide_divided.j1] at h, fun _ _ _ _ _ _ _ _ _ _ r h => by simp [wide_divided.j2] at h⟩
 | k + 1 => by
  obtain ⟨ih0, ih1, ih2⟩ := wide_divided.mono_l k
  refine ⟨?_, ?_, ?_⟩
  · intro y0 y1 y2 y3 y4 y5 y6 y7 y8
    unfold wide_divided.l0
    repeat' first
    | (with_reducible exact ih0 _ _ _ _ _ _ _ _ _)
    | (with_reducible exact ih1 _ _ _ _ _ _ _ _ _ _)
    | (with_reducible exact ih2 _ _ _ _ _ _ _ _ _ _)
    | (with_reducible exact LeO.refl _)
    | (with_reducible exact LeO.none _)
    | (with_reducible refine LeO.ite ?_ ?_)
    | (with_reducible refine LeO.bind ?_ (fun _ => ?_))
    | exact ih0 _ _ _ _ _ _ _ _ _
    | exact ih1 _ _ _ _ _ _ _ _ _ _
    | exact ih2 _ _ _ _ _ _ _ _ _ _
    | exact LeO.none _
    | refine LeO.ite ?_ ?_
    | refine LeO.bind ?_ (fun _ => ?_)
  · intro y0 y1 y2 y3 y4 y5 y6 y7 y8 y9
    unfold wide_divided.j1
    repeat' first
    | (with_reducible exact ih0 _ _ _ _ _ _ _ _ _)
    | (with_reducible exact ih1 _ _ _ _ _ _ _ _ _ _)
    | (with_reducible exact ih2 _ _ _ _ _ _ _ _ _ _)
    | (with_reducible exact LeO.refl _)
    | (with_reducible exact LeO.none _)
    | (with_reducible refine LeO.ite ?_ ?_)
    | (with_reducible refine LeO.bind ?_ (fun _ => ?_))
    | exact ih0 _ _ _ _ _ _ _ _ _
    | exact ih1 _ _ _ _ _ _ _ _ _ _
    | exact ih2 _ _ _ _ _ _ _ _ _ _
    | exact LeO.none _
    | refine LeO.ite ?_ ?_
    | refine LeO.bind ?_ (fun _ => ?_)
  · intro y0 y1 y2 y3 y4 y5 y6 y7 y8 y9
    unfold wide_divided.j2
    repeat' first
    | (with_reducible exact ih0 _ _ _ _ _ _ _ _ _)
    | (with_reducible exact ih1 _ _ _ _ _ _ _ _ _ _)
    | (with_reducible exact ih2 _ _ _ _ _ _ _ _ _ _)
    | (with_reducible exact LeO.refl _)
    | (with_reducible exact LeO.none _)
    | (with_reducible refine LeO.ite ?_ ?_)
    | (with_reducible refine LeO.bind ?_ (fun _ => ?_))
    | exact ih0 _ _ _ _ _ _ _ _ _
    | exact ih1 _ _ _ _ _ _ _ _ _ _
    | exact ih2 _ _ _ _ _ _ _ _ _ _
    | exact LeO.none _
    | refine LeO.ite ?_ ?_
    | refine LeO.bind ?_ (fun _ => ?_)
theorem wide_divided.mono : ∀ a0 a1 a2 a3 k, LeO (wide_divided.f k a0 a1 a2 a3) (wide_divided.f (k + 1) a0 a1 a2 a3) := by
 intro a0 a1 a2 a3 k
 obtain ⟨ih0, ih1, ih2⟩ := wide_divided.mono_l k
 unfold wide_divided.f
 repeat' first
  | (with_reducible exact ih0 _ _ _ _ _ _ _ _ _)
  | (with_reducible exact ih1 _ _ _ _ _ _ _ _ _ _)
  | (with_reducible exact ih2 _ _ _ _ _ _ _ _ _ _)
  | (with_reducible exact LeO.refl _)
  | (with_reducible exact LeO.none _)
  | (with_reducible refine LeO.ite ?_ ?_)
  | (with_reducible refine LeO.bind ?_ (fun _ => ?_))
  | exact ih0 _ _ _ _ _ _ _ _ _
  | exact ih1 _ _ _ _ _ _ _ _ _ _
  | exact ih2 _ _ _ _ _ _ _ _ _ _
  | exact LeO.none _
  | refine LeO.ite ?_ ?_
  | refine LeO.bind ?_ (fun _ => ?_)
def wide_divided.T6 : Bool × List (List Nat × List Nat) := (true, [([], []), ([0], [0]), ([1], [1]), ([], []), ([3], [3]), ([4], [4]), ([5], [5]), ([], []), ([7], [7]), ([8], [8]), ([6, 9], [6, 9]), ([10], [10]), ([2, 11], [2, 11]), ([], []), ([13], [13]), ([14], [14]), ([], []), ([16], [16]), ([17], [17]), ([15, 18], [15, 18]), ([12, 19], [12, 19]), ([20, 0, 1, 2, 3, 4, 5, 6, 7, 8, 9, 10, 11, 12, 13, 14, 15, 16, 17, 18, 19, 20], [20])])
def wide_divided.B6 : List Nat := [0, 1, 3, 0, 8, 24, 56, 0, 128, 384, 1016, 2040, 4095, 0, 8192, 24576, 0, 65536, 196608, 516096, 1048575, 2097151]
theorem wide_divided.tab6 : rtab .any (opsOf Tryd.f65 6) = wide_divided.T6 := by kernel_rfl
theorem wide_divided.bits6 : waitsOk wide_divided.T6.2 wide_divided.B6 = true := by kernel_rfl
set_option maxHeartbeats 8000000 in
set_option maxRecDepth 100000 in
theorem wide_divided.calls (k : Nat) (a0_0 : Int) (a0_1 : Int) (a1_0 : Int) (a1_1 : Int) (r1 : Int) (r2 : Int) (r3 : Int) (r4 : Int) (w : World) (h : wide_divided.f k a0_0 a0_1 a1_0 a1_1 = some (r1, r2, r3, r4)) :
 Calls Tryd.prog 65 #[.agg #[.int .u64 a0_0, .int .u64 a0_1], .agg #[.int .u64 a1_0, .int .u64 a1_1]] w fun e w' => e = .returned (.tuple #[.agg #[.int .u64 r1, .int .u64 r2], .agg #[.int .u64 r3, .int .u64 r4]]) ∧ Below w.heap.size w w' := by
 have hu62 := Tryd.underlying62; have HB := am (Below.refl w.heap.size w); have H : (wide_divided.l0 k 127 a0_0 a0_1 a1_0 a1_1 0 0 0 0) = some (r1, r2, r3, r4) := h; clear h; have H' := Aside0.mk H; clear H
 go_enter Tryd.func65, Tryd.ntmps65
 go_wp2_with (first | ((with_reducible refine gate_dst (N := 2) rfl ?_); refine box_event (by rfl) (N := 2) (by rfl) (cs := #[.int .u64 a0_0, .int .u64 a0_1]) (t := 62) (by go_simp <;> rfl) ?_; intro gb103 hg w3 hbox hb; have BK103 := am (hbox); have GW103 := gw w hg; replace HB := am (below_step bz hb); clear hb hbox hg) | ((with_reducible refine gate_dst (N := 3) rfl ?_); refine box_event (by rfl) (N := 3) (by rfl) (cs := #[.int .u64 a1_0, .int .u64 a1_1]) (t := 62) (by go_simp <;> rfl) ?_; intro gb104 hg w4 hbox hb; have BK104 := am (hbox); have GW104 := gw w hg; replace HB := am (below_step bz hb); have NB103_104 := nl BK103 hg; have NB104_103 := nr BK103 hg; replace BK103 := am (bb BK103 hb); clear hb hbox hg) | ((with_reducible refine gate_dst (N := 4) rfl ?_); refine box_event (by rfl) (N := 4) (by rfl) (cs := #[.int .u64 0, .int .u64 0]) (t := 62) (by go_simp <;> rfl) ?_; intro gb105 hg w5 hbox hb; have BK105 := am (hbox); have GW105 := gw w hg; replace HB := am (below_step bz hb); have NB103_105 := nl BK103 hg; have NB105_103 := nr BK103 hg; replace BK103 := am (bb BK103 hb); have NB104_105 := nl BK104 hg; have NB105_104 := nr BK104 hg; replace BK104 := am (bb BK104 hb); clear hb hbox hg) | ((with_reducible refine gate_dst (N := 5) rfl ?_); refine box_event (by rfl) (N := 5) (by rfl) (cs := #[.int .u64 0, .int .u64 0]) (t := 62) (by go_simp <;> rfl) ?_; intro gb106 hg w6 hbox hb; have BK106 := am (hbox); have GW106 := gw w hg; replace HB := am (below_step bz hb); have NB103_106 := nl BK103 hg; have NB106_103 := nr BK103 hg; replace BK103 := am (bb BK103 hb); have NB104_106 := nl BK104 hg; have NB106_104 := nr BK104 hg; replace BK104 := am (bb BK104 hb); have NB105_106 := nl BK105 hg; have NB106_105 := nr BK105 hg; replace BK105 := am (bb BK105 hb); clear hb hbox hg) | ((with_reducible refine gate_dst (N := 6) rfl ?_); refine box_event (by rfl) (N := 6) (by rfl) (cs := #[.int .u64 0, .int .u64 0]) (t := 62) (by go_simp <;> rfl) ?_; intro gb107 hg w7 hbox hb; have BK107 := am (hbox); have GW107 := gw w hg; replace HB := am (below_step bz hb); have NB103_107 := nl BK103 hg; have NB107_103 := nr BK103 hg; replace BK103 := am (bb BK103 hb); have NB104_107 := nl BK104 hg; have NB107_104 := nr BK104 hg; replace BK104 := am (bb BK104 hb); have NB105_107 := nl BK105 hg; have NB107_105 := nr BK105 hg; replace BK105 := am (bb BK105 hb); have NB106_107 := nl BK106 hg; have NB107_106 := nr BK106 hg; replace BK106 := am (bb BK106 hb); clear hb hbox hg) | ((with_reducible refine gate_dst (N := 7) rfl ?_); refine box_event (by rfl) (N := 7) (by rfl) (cs := #[.int .u64 0, .int .u64 0]) (t := 62) (by go_simp <;> rfl) ?_; intro gb108 hg w8 hbox hb; have BK108 := am (hbox); have GW108 := gw w hg; replace HB := am (below_step bz hb); have NB103_108 := nl BK103 hg; have NB108_103 := nr BK103 hg; replace BK103 := am (bb BK103 hb); have NB104_108 := nl BK104 hg; have NB108_104 := nr BK104 hg; replace BK104 := am (bb BK104 hb); have NB105_108 := nl BK105 hg; have NB108_105 := nr BK105 hg; replace BK105 := am (bb BK105 hb); have NB106_108 := nl BK106 hg; have NB108_106 := nr BK106 hg; replace BK106 := am (bb BK106 hb); have NB107_108 := nl BK107 hg; have NB108_107 := nr BK107 hg; replace BK107 := am (bb BK107 hb); clear hb hbox hg))
 go_loopg [8] k (fun kq v8 w' => ∃ (x8_1 : Int) (x108000_1 : Int) (x108001_1 : Int) (x109000_1 : Int) (x109001_1 : Int), v8 = .int .i64 x8_1 ∧ Aside0 (wide_divided.l0 kq x8_1 a0_0 a0_1 a1_0 a1_1 x108000_1 x108001_1 x109000_1 x109001_1 = some (r1, r2, r3, r4)) ∧ Aside0 (kq ≤ k) ∧ Aside0 (w'.heap[gb103]? = some (.cells #[.int .u64 a0_0, .int .u64 a0_1] 62 (0, 0))) ∧ Aside0 (w'.heap[gb104]? = some (.cells #[.int .u64 a1_0, .int .u64 a1_1] 62 (0, 0))) ∧ Aside0 (w'.heap[gb105]? = some (.cells #[.int .u64 0, .int .u64 0] 62 (0, 0))) ∧ Aside0 (w'.heap[gb106]? = some (.cells #[.int .u64 0, .int .u64 0] 62 (0, 0))) ∧ Aside0 (w'.heap[gb107]? = some (.cells #[.int .u64 x108000_1, .int .u64 x108001_1] 62 (0, 0))) ∧ Aside0 (w'.heap[gb108]? = some (.cells #[.int .u64 x109000_1, .int .u64 x109001_1] 62 (0, 0))) ∧ Aside0 (Below w.heap.size w w'))
 case atStart => exact ⟨(127), (0), (0), (0), (0), rs, H', ⟨Nat.le_refl _⟩, kf, kf, kf, kf, kf, kf, ⟨bz⟩⟩
 case round =>
  clear H'
  try clear p2
  try clear c6
  obtain ⟨x8_1, x108000_1, x108001_1, x109000_1, x109001_1, rfl, HA, HK1, BK103, BK104, BK105, BK106, BK107, BK108, HB⟩ := hrel
  cases gk with
  | zero => exact absurd HA.out (by simp [wide_divided.l0])
  | succ k1 =>
   have H := HA.out; clear HA
   simp only [wide_divided.l0] at H
   by_cases c9 : x8_1 ≥ 0
   · rw [if_pos c9] at H
     have c9b0 : decide (0 ≤ x8_1) = true := decide_eq_true c9; clear c9
     by_cases c10 : (wrap64 (Int.tdiv x8_1 64)) = 0
     · rw [if_pos c10] at H
       have c10b0 : ((wrap64 (Int.tdiv x8_1 64)) == 0) = true := beq_iff_eq.mpr c10; have c10b1 : ((wrap64 (Int.tdiv x8_1 64)) != 0) = false := bne_eq_false_iff_eq.mpr c10; have c10E : (wrap64 (Int.tdiv x8_1 64)) = 0 := c10; clear c10
       obtain ⟨ji11, hji11⟩ : ∃ j_ : Int, (IntKind.u64.wrap (Int.tmod x8_1 64)) = j_ := ⟨_, rfl⟩
       replace H : (if 0 ≤ (ji11) then (if (x109001_1 / 9223372036854775808) = 1 then (wide_divided.j1 k1 x8_1 true a0_0 a0_1 a1_0 a1_1 x108000_1 x108001_1 (Go.bits .or .u64 (IntKind.u64.wrap (x109000_1 * 2)) (Go.bits .and .u64 (shr .u64 a0_0 (ji11)) 1)) (Go.bits .or .u64 (IntKind.u64.wrap (x109001_1 * 2)) (x109000_1 / 9223372036854775808))) else (if (Go.bits .or .u64 (IntKind.u64.wrap (x109001_1 * 2)) (x109000_1 / 9223372036854775808)) > a1_1 then (wide_divided.j1 k1 x8_1 true a0_0 a0_1 a1_0 a1_1 x108000_1 x108001_1 (Go.bits .or .u64 (IntKind.u64.wrap (x109000_1 * 2)) (Go.bits .and .u64 (shr .u64 a0_0 (ji11)) 1)) (Go.bits .or .u64 (IntKind.u64.wrap (x109001_1 * 2)) (x109000_1 / 9223372036854775808))) else (if (Go.bits .or .u64 (IntKind.u64.wrap (x109001_1 * 2)) (x109000_1 / 9223372036854775808)) = a1_1 then (wide_divided.j1 k1 x8_1 (decide ((Go.bits .or .u64 (IntKind.u64.wrap (x109000_1 * 2)) (Go.bits .and .u64 (shr .u64 a0_0 (ji11)) 1)) ≥ a1_0)) a0_0 a0_1 a1_0 a1_1 x108000_1 x108001_1 (Go.bits .or .u64 (IntKind.u64.wrap (x109000_1 * 2)) (Go.bits .and .u64 (shr .u64 a0_0 (ji11)) 1)) (Go.bits .or .u64 (IntKind.u64.wrap (x109001_1 * 2)) (x109000_1 / 9223372036854775808))) else (wide_divided.j1 k1 x8_1 false a0_0 a0_1 a1_0 a1_1 x108000_1 x108001_1 (Go.bits .or .u64 (IntKind.u64.wrap (x109000_1 * 2)) (Go.bits .and .u64 (shr .u64 a0_0 (ji11)) 1)) (Go.bits .or .u64 (IntKind.u64.wrap (x109001_1 * 2)) (x109000_1 / 9223372036854775808)))))) else (none)) = some (r1, r2, r3, r4) := by first | (rw [hji11] at H; exact H) | (simp only [hji11] at H ⊢; exact H)
       by_cases c12 : 0 ≤ (ji11)
       · rw [if_pos c12] at H
         have c12b0 := eq_true c12; have c12b1 : decide (0 ≤ (ji11)) = true := decide_eq_true c12; clear c12
         obtain ⟨ji13, hji13⟩ : ∃ j_ : Int, (shr .u64 a0_0 (ji11)) = j_ := ⟨_, rfl⟩
         replace H : (if (x109001_1 / 9223372036854775808) = 1 then (wide_divided.j1 k1 x8_1 true a0_0 a0_1 a1_0 a1_1 x108000_1 x108001_1 (Go.bits .or .u64 (IntKind.u64.wrap (x109000_1 * 2)) (Go.bits .and .u64 (ji13) 1)) (Go.bits .or .u64 (IntKind.u64.wrap (x109001_1 * 2)) (x109000_1 / 9223372036854775808))) else (if (Go.bits .or .u64 (IntKind.u64.wrap (x109001_1 * 2)) (x109000_1 / 9223372036854775808)) > a1_1 then (wide_divided.j1 k1 x8_1 true a0_0 a0_1 a1_0 a1_1 x108000_1 x108001_1 (Go.bits .or .u64 (IntKind.u64.wrap (x109000_1 * 2)) (Go.bits .and .u64 (ji13) 1)) (Go.bits .or .u64 (IntKind.u64.wrap (x109001_1 * 2)) (x109000_1 / 9223372036854775808))) else (if (Go.bits .or .u64 (IntKind.u64.wrap (x109001_1 * 2)) (x109000_1 / 9223372036854775808)) = a1_1 then (wide_divided.j1 k1 x8_1 (decide ((Go.bits .or .u64 (IntKind.u64.wrap (x109000_1 * 2)) (Go.bits .and .u64 (ji13) 1)) ≥ a1_0)) a0_0 a0_1 a1_0 a1_1 x108000_1 x108001_1 (Go.bits .or .u64 (IntKind.u64.wrap (x109000_1 * 2)) (Go.bits .and .u64 (ji13) 1)) (Go.bits .or .u64 (IntKind.u64.wrap (x109001_1 * 2)) (x109000_1 / 9223372036854775808))) else (wide_divided.j1 k1 x8_1 false a0_0 a0_1 a1_0 a1_1 x108000_1 x108001_1 (Go.bits .or .u64 (IntKind.u64.wrap (x109000_1 * 2)) (Go.bits .and .u64 (ji13) 1)) (Go.bits .or .u64 (IntKind.u64.wrap (x109001_1 * 2)) (x109000_1 / 9223372036854775808)))))) = some (r1, r2, r3, r4) := by first | (rw [hji13] at H; exact H) | (simp only [hji13] at H ⊢; exact H)
         have hji13_ : (a0_0 / 2 ^ min (ji11).toNat 64) = ji13 := hji13; have hji13z : (ji11) ≤ 64 → (a0_0 / 2 ^ (ji11).toNat) = ji13 := shr_small hji13; have HC14 := Aside0.mk H; clear H; have hnb15 := NB108_103.out; have hnc15 := NB103_108.out; have hnb16 := NB108_104.out; have hnc16 := NB104_108.out; have hnb17 := NB108_105.out; have hnc17 := NB105_108.out; have hnb18 := NB108_106.out; have hnc18 := NB106_108.out; have hnb19 := NB108_107.out; have hnc19 := NB107_108.out; have hcz20_0 : wr.cell? ⟨gb108, 0, none⟩ = some (.int .u64 x109000_1) := bc BK108 0; have hcz20_1 : wr.cell? ⟨gb108, 1, none⟩ = some (.int .u64 x109001_1) := bc BK108 1; have hfz20_0 := blk_frozen BK108.out 0; have hfz20_1 := blk_frozen BK108.out 1
         try go_wp2
         replace BK103 := am (blk_drew BK103.out); replace BK104 := am (blk_drew BK104.out); replace BK105 := am (blk_drew BK105.out); replace BK106 := am (blk_drew BK106.out); replace BK107 := am (blk_drew BK107.out); replace BK108 := am (blk_drew BK108.out); replace HB := am (below_drew1 HB.out)
         refine start_ (n := 22) (S := fun w' => w'.cell? ⟨gb108, 0, none⟩ = some (.int .u64 x109000_1) ∧ w'.cell? ⟨gb108, 1, none⟩ = some (.int .u64 x109001_1) ∧ w'.cell? ⟨gb103, 0, none⟩ = some (.int .u64 a0_0) ∧ w'.cell? ⟨gb103, 1, none⟩ = some (.int .u64 a0_1)) (ds := [21]) #[false, false, false, false, false, false, false, false, false, false, false, false, false, false, false, false, false, false, false, false, false, false] (by kernel_rfl) rfl rfl ⟨bc BK108 0, bc BK108 1, bc BK103 0, bc BK103 1⟩ (fun hHeld => ?_); refine with_tabW wide_divided.tab6 wide_divided.bits6 (fun HT_ HW_ => ?_)
         generalize wr.drew = w21 at BK103 BK104 BK105 BK106 BK107 BK108 HB hHeld ⊢
         refine pure_ (i := 0) (N := some 21) (v := ?_) (a' := ?_) #[true, false, false, false, false, false, false, false, false, false, false, false, false, false, false, false, false, false, false, false, false, false] rfl rfl (any_of HT_.out (by kernel_rfl)) (fun _ _ _ h => h) (Or.inl ⟨by rfl, ?_⟩) ?_ ?_
         rotate_left; · intro w'; go_simp; with_reducible rfl
         rotate_left; · simp only [Act.put, List.setIfInBounds_toArray, List.set_cons_zero, List.set_cons_succ, i64_w, i32_w]; rfl
         refine pure_ (i := 3) (N := some 24) (v := ?_) (a' := ?_) #[true, false, false, true, false, false, false, false, false, false, false, false, false, false, false, false, false, false, false, false, false, false] rfl rfl (any_of HT_.out (by kernel_rfl)) (fun _ _ _ h => h) (Or.inl ⟨by rfl, ?_⟩) ?_ ?_
         rotate_left; · intro w'; go_simp; with_reducible rfl
         rotate_left; · simp only [Act.put, List.setIfInBounds_toArray, List.set_cons_zero, List.set_cons_succ, i64_w, i32_w]; rfl
         refine pure_ (i := 4) (N := some 25) (v := ?_) (a' := ?_) #[true, false, false, true, true, false, false, false, false, false, false, false, false, false, false, false, false, false, false, false, false, false] rfl rfl (any_of HT_.out (by kernel_rfl)) (fun _ _ _ h => h) (Or.inl ⟨by rfl, ?_⟩) ?_ ?_
         rotate_left; · intro w'; go_simp; with_reducible rfl
         rotate_left; · simp only [Act.put, List.setIfInBounds_toArray, List.set_cons_zero, List.set_cons_succ, i64_w, i32_w]; rfl
         refine pure_ (i := 5) (N := some 26) (v := ?_) (a' := ?_) #[true, false, false, true, true, true, false, false, false, false, false, false, false, false, false, false, false, false, false, false, false, false] rfl rfl (any_of HT_.out (by kernel_rfl)) (fun _ _ _ h => h) (Or.inl ⟨by rfl, ?_⟩) ?_ ?_
         rotate_left; · intro w'; go_simp; with_reducible rfl
         rotate_left; · simp only [Act.put, List.setIfInBounds_toArray, List.set_cons_zero, List.set_cons_succ, i64_w, i32_w]; rfl
         refine pure_ (i := 7) (N := some 28) (v := ?_) (a' := ?_) #[true, false, false, true, true, true, false, true, false, false, false, false, false, false, false, false, false, false, false, false, false, false] rfl rfl (any_of HT_.out (by kernel_rfl)) (fun _ _ _ h => h) (Or.inl ⟨by rfl, ?_⟩) ?_ ?_
         rotate_left; · intro w'; go_simp; with_reducible rfl
         rotate_left; · simp only [Act.put, List.setIfInBounds_toArray, List.set_cons_zero, List.set_cons_succ, i64_w, i32_w]; rfl
         refine pure_ (i := 8) (N := some 29) (v := ?_) (a' := ?_) #[true, false, false, true, true, true, false, true, true, false, false, false, false, false, false, false, false, false, false, false, false, false] rfl rfl (any_of HT_.out (by kernel_rfl)) (fun _ _ _ h => h) (Or.inl ⟨by rfl, ?_⟩) ?_ ?_
         rotate_left; · intro w'; go_simp; with_reducible rfl
         rotate_left; · simp only [Act.put, List.setIfInBounds_toArray, List.set_cons_zero, List.set_cons_succ, i64_w, i32_w]; rfl
         refine pure_ (i := 9) (N := some 30) (v := ?_) (a' := ?_) #[true, false, false, true, true, true, false, true, true, true, false, false, false, false, false, false, false, false, false, false, false, false] rfl rfl (any_of HT_.out (by kernel_rfl)) (fun _ _ _ h => h) (Or.inl ⟨by rfl, ?_⟩) ?_ ?_
         rotate_left; · intro w'; go_simp; with_reducible rfl
         rotate_left; · simp only [Act.put, List.setIfInBounds_toArray, List.set_cons_zero, List.set_cons_succ, i64_w, i32_w]; rfl
         refine pure_ (i := 13) (N := some 34) (v := ?_) (a' := ?_) #[true, false, false, true, true, true, false, true, true, true, false, false, false, true, false, false, false, false, false, false, false, false] rfl rfl (any_of HT_.out (by kernel_rfl)) (fun _ _ _ h => h) (Or.inl ⟨by rfl, ?_⟩) ?_ ?_
         rotate_left; · intro w'; go_simp; with_reducible rfl
         rotate_left; · simp only [Act.put, List.setIfInBounds_toArray, List.set_cons_zero, List.set_cons_succ, i64_w, i32_w]; rfl
         refine pure_ (i := 16) (N := some 37) (v := ?_) (a' := ?_) #[true, false, false, true, true, true, false, true, true, true, false, false, false, true, false, false, true, false, false, false, false, false] rfl rfl (any_of HT_.out (by kernel_rfl)) (fun _ _ _ h => h) (Or.inl ⟨by rfl, ?_⟩) ?_ ?_
         rotate_left; · intro w'; go_simp; with_reducible rfl
         rotate_left; · simp only [Act.put, List.setIfInBounds_toArray, List.set_cons_zero, List.set_cons_succ, i64_w, i32_w]; rfl
         refine take_ (i := 1) (N := some 22) (v := ?_) (a' := ?_) #[true, true, false, true, true, true, false, true, true, true, false, false, false, true, false, false, true, false, false, false, false, false] rfl rfl (take_ofW HT_.out HW_.out (by kernel_rfl)) (fun _ _ _ h => h) (Or.inl ⟨by rfl, ?_⟩) hHeld ?_ ?_
         rotate_left
         · rintro w' ⟨s0, s1, s2, s3⟩
           go_simp
           with_reducible rfl
         rotate_left
         · simp only [Act.put, List.setIfInBounds_toArray, List.set_cons_zero, List.set_cons_succ, i64_w, i32_w]
           rfl
         refine pure_ (i := 2) (N := some 23) (v := ?_) (a' := ?_) #[true, true, true, true, true, true, false, true, true, true, false, false, false, true, false, false, true, false, false, false, false, false] rfl rfl (any_of HT_.out (by kernel_rfl)) (fun _ _ _ h => h) (Or.inl ⟨by rfl, ?_⟩) ?_ ?_
         rotate_left; · intro w'; go_simp; with_reducible rfl
         rotate_left; · simp only [Act.put, List.setIfInBounds_toArray, List.set_cons_zero, List.set_cons_succ, i64_w, i32_w]; rfl
         refine take_ (i := 6) (N := some 27) (v := ?_) (a' := ?_) #[true, true, true, true, true, true, true, true, true, true, false, false, false, true, false, false, true, false, false, false, false, false] rfl rfl (take_ofW HT_.out HW_.out (by kernel_rfl)) (fun _ _ _ h => h) (Or.inl ⟨by rfl, ?_⟩) hHeld ?_ ?_
         rotate_left
         · rintro w' ⟨s0, s1, s2, s3⟩
           go_simp
           with_reducible rfl
         rotate_left
         · simp only [Act.put, List.setIfInBounds_toArray, List.set_cons_zero, List.set_cons_succ, i64_w, i32_w]
           rfl
         refine pure_ (i := 10) (N := some 31) (v := ?_) (a' := ?_) #[true, true, true, true, true, true, true, true, true, true, true, false, false, true, false, false, true, false, false, false, false, false] rfl rfl (any_of HT_.out (by kernel_rfl)) (fun _ _ _ h => h) (Or.inl ⟨by rfl, ?_⟩) ?_ ?_
         rotate_left; · intro w'; go_simp; with_reducible rfl
         rotate_left; · simp only [Act.put, List.setIfInBounds_toArray, List.set_cons_zero, List.set_cons_succ, i64_w, i32_w]; rfl
         refine pure_ (i := 11) (N := some 32) (v := ?_) (a' := ?_) #[true, true, true, true, true, true, true, true, true, true, true, true, false, true, false, false, true, false, false, false, false, false] rfl rfl (any_of HT_.out (by kernel_rfl)) (fun _ _ _ h => h) (Or.inl ⟨by rfl, ?_⟩) ?_ ?_
         rotate_left; · intro w'; go_simp; with_reducible rfl
         rotate_left; · simp only [Act.put, List.setIfInBounds_toArray, List.set_cons_zero, List.set_cons_succ, i64_w, i32_w]; rfl
         refine pure_ (i := 12) (N := some 33) (v := ?_) (a' := ?_) #[true, true, true, true, true, true, true, true, true, true, true, true, true, true, false, false, true, false, false, false, false, false] rfl rfl (any_of HT_.out (by kernel_rfl)) (fun _ _ _ h => h) (Or.inl ⟨by rfl, ?_⟩) ?_ ?_
         rotate_left; · intro w'; go_simp; with_reducible rfl
         rotate_left; · simp only [Act.put, List.setIfInBounds_toArray, List.set_cons_zero, List.set_cons_succ, i64_w, i32_w]; rfl
         refine take_ (i := 14) (N := some 35) (v := ?_) (a' := ?_) #[true, true, true, true, true, true, true, true, true, true, true, true, true, true, true, false, true, false, false, false, false, false] rfl rfl (take_ofW HT_.out HW_.out (by kernel_rfl)) (fun _ _ _ h => h) (Or.inl ⟨by rfl, ?_⟩) hHeld ?_ ?_
         rotate_left
         · rintro w' ⟨s0, s1, s2, s3⟩
           go_simp
           with_reducible rfl
         rotate_left
         · simp only [Act.put, List.setIfInBounds_toArray, List.set_cons_zero, List.set_cons_succ, i64_w, i32_w]
           rfl
         refine pure_ (i := 15) (N := some 36) (v := ?_) (a' := ?_) #[true, true, true, true, true, true, true, true, true, true, true, true, true, true, true, true, true, false, false, false, false, false] rfl rfl (any_of HT_.out (by kernel_rfl)) (fun _ _ _ h => h) (Or.inl ⟨by rfl, ?_⟩) ?_ ?_
         rotate_left; · intro w'; go_simp; with_reducible rfl
         rotate_left; · simp only [Act.put, List.setIfInBounds_toArray, List.set_cons_zero, List.set_cons_succ, i64_w, i32_w]; rfl
         refine take_ (i := 17) (N := some 38) (v := ?_) (a' := ?_) #[true, true, true, true, true, true, true, true, true, true, true, true, true, true, true, true, true, true, false, false, false, false] rfl rfl (take_ofW HT_.out HW_.out (by kernel_rfl)) (fun _ _ _ h => h) (Or.inl ⟨by rfl, ?_⟩) hHeld ?_ ?_
         rotate_left
         · rintro w' ⟨s0, s1, s2, s3⟩
           go_simp
           with_reducible rfl
         rotate_left
         · simp only [Act.put, List.setIfInBounds_toArray, List.set_cons_zero, List.set_cons_succ, i64_w, i32_w]
           rfl
         refine pure_ (i := 18) (N := some 39) (v := ?_) (a' := ?_) #[true, true, true, true, true, true, true, true, true, true, true, true, true, true, true, true, true, true, true, false, false, false] rfl rfl (any_of HT_.out (by kernel_rfl)) (fun _ _ _ h => h) (Or.inl ⟨by rfl, ?_⟩) ?_ ?_
         rotate_left; · intro w'; go_simp; with_reducible rfl
         rotate_left; · simp only [Act.put, List.setIfInBounds_toArray, List.set_cons_zero, List.set_cons_succ, i64_w, i32_w]; rfl
         refine pure_ (i := 19) (N := some 40) (v := ?_) (a' := ?_) #[true, true, true, true, true, true, true, true, true, true, true, true, true, true, true, true, true, true, true, true, false, false] rfl rfl (any_of HT_.out (by kernel_rfl)) (fun _ _ _ h => h) (Or.inl ⟨by rfl, ?_⟩) ?_ ?_
         rotate_left; · intro w'; go_simp; with_reducible rfl
         rotate_left; · simp only [Act.put, List.setIfInBounds_toArray, List.set_cons_zero, List.set_cons_succ, i64_w, i32_w]; rfl
         refine pure_ (i := 20) (N := some 41) (v := ?_) (a' := ?_) #[true, true, true, true, true, true, true, true, true, true, true, true, true, true, true, true, true, true, true, true, true, false] rfl rfl (any_of HT_.out (by kernel_rfl)) (fun _ _ _ h => h) (Or.inl ⟨by rfl, ?_⟩) ?_ ?_
         rotate_left; · intro w'; go_simp; with_reducible rfl
         rotate_left; · simp only [Act.put, List.setIfInBounds_toArray, List.set_cons_zero, List.set_cons_succ, i64_w, i32_w]; rfl
         refine last_ (i := 21) (N := none) #[true, true, true, true, true, true, true, true, true, true, true, true, true, true, true, true, true, true, true, true, true, true] rfl rfl (one_of HT_.out (by kernel_rfl)) (by decide) (fun K hK => ?_)
         have hs22 : w21.cell? ⟨gb108, 0, none⟩ = some (.int .u64 x109000_1) := bc BK108 0; have hfs22 := blk_frozen BK108.out 0; have hns22_0 := NB103_108.out; have hns22_1 := NB104_108.out; have hns22_2 := NB105_108.out; have hns22_3 := NB106_108.out; have hns22_4 := NB107_108.out; have hms22_0 := NB108_103.out; have hms22_1 := NB108_104.out; have hms22_2 := NB108_105.out; have hms22_3 := NB108_106.out; have hms22_4 := NB108_107.out; have hs23 : w21.cell? ⟨gb108, 1, none⟩ = some (.int .u64 x109001_1) := bc BK108 1; have hfs23 := blk_frozen BK108.out 1; have hns23_0 := NB103_108.out; have hns23_1 := NB104_108.out; have hns23_2 := NB105_108.out; have hns23_3 := NB106_108.out; have hns23_4 := NB107_108.out; have hms23_0 := NB108_103.out; have hms23_1 := NB108_104.out; have hms23_2 := NB108_105.out; have hms23_3 := NB108_106.out; have hms23_4 := NB108_107.out
         refine skip_ (w1 := ?_) (by rfl) rfl ?_ ?_
         rotate_left
         · go_simp
           rfl
         refine hK.out _ _ ?_
         clear hK K
         refine done_ (done_of HT_.out (by kernel_rfl)) ?_
         go_upto_region 7 with (fail)
         go_cut [64] (fun v64 wc => ∃ (kq : Nat) (x64_13 : Bool), v64 = .bool x64_13 ∧ Aside0 (wide_divided.j1 kq x8_1 x64_13 a0_0 a0_1 a1_0 a1_1 x108000_1 x108001_1 (Go.bits .or .u64 (IntKind.u64.wrap (x109000_1 * 2)) (Go.bits .and .u64 (ji13) 1)) (Go.bits .or .u64 (IntKind.u64.wrap (x109001_1 * 2)) (x109000_1 / 9223372036854775808)) = some (r1, r2, r3, r4)) ∧ Aside0 (kq ≤ k1) ∧ Aside0 (wc.heap[gb103]? = some (.cells #[.int .u64 a0_0, .int .u64 a0_1] 62 (0, 0))) ∧ Aside0 (wc.heap[gb104]? = some (.cells #[.int .u64 a1_0, .int .u64 a1_1] 62 (0, 0))) ∧ Aside0 (wc.heap[gb105]? = some (.cells #[.int .u64 0, .int .u64 0] 62 (0, 0))) ∧ Aside0 (wc.heap[gb106]? = some (.cells #[.int .u64 0, .int .u64 0] 62 (0, 0))) ∧ Aside0 (wc.heap[gb107]? = some (.cells #[.int .u64 x108000_1, .int .u64 x108001_1] 62 (0, 0))) ∧ Aside0 (wc.heap[gb108]? = some (.cells #[.int .u64 (Go.bits .or .u64 (IntKind.u64.wrap (x109000_1 * 2)) (Go.bits .and .u64 (ji13) 1)), .int .u64 (Go.bits .or .u64 (IntKind.u64.wrap (x109001_1 * 2)) (x109000_1 / 9223372036854775808))] 62 (0, 0))) ∧ Aside0 (Below w.heap.size w wc))
         case first =>
          have H := HC14.out; clear HC14
          by_cases c24 : (x109001_1 / 9223372036854775808) = 1
          · rw [if_pos c24] at H
            have c24b0 : ((x109001_1 / 9223372036854775808) == 1) = true := beq_iff_eq.mpr c24; have c24b1 : ((x109001_1 / 9223372036854775808) != 1) = false := bne_eq_false_iff_eq.mpr c24; clear c24
            (first | rw [c24b0] | (simp only [i64_w, i32_w]; rw [c24b0]) | skip)
            have H' := Aside0.mk H; clear H
            go_wp2
            go_meet
            case rel => exact ⟨_, (true), rs, H', ⟨by have := HK1.out; first | omega | exact Nat.le_refl _⟩, kf, kf, kf, kf, kf, ⟨blk_put (blk_put BK108.out 0 _ rfl) 1 _ rfl⟩, ⟨bz⟩⟩
          · rw [if_neg c24] at H
            have c24b0 : ((x109001_1 / 9223372036854775808) == 1) = false := beq_eq_false_iff_ne.mpr c24; have c24b1 : ((x109001_1 / 9223372036854775808) != 1) = true := bne_iff_ne.mpr c24
            (first | rw [c24b0] | (simp only [i64_w, i32_w]; rw [c24b0]) | skip)
            by_cases c25 : (Go.bits .or .u64 (IntKind.u64.wrap (x109001_1 * 2)) (x109000_1 / 9223372036854775808)) > a1_1
            · rw [if_pos c25] at H
              have c25b0 : decide (a1_1 < (Go.bits .or .u64 (IntKind.u64.wrap (x109001_1 * 2)) (x109000_1 / 9223372036854775808))) = true := decide_eq_true c25; clear c25; have H' := Aside0.mk H; clear H; have hnb26 := NB108_103.out; have hnc26 := NB103_108.out; have hnb27 := NB108_104.out; have hnc27 := NB104_108.out; have hnb28 := NB108_105.out; have hnc28 := NB105_108.out; have hnb29 := NB108_106.out; have hnc29 := NB106_108.out; have hnb30 := NB108_107.out; have hnc30 := NB107_108.out; have hcz31_0 : w21.cell? ⟨gb108, 0, none⟩ = some (.int .u64 x109000_1) := bc BK108 0; have hcz31_1 : w21.cell? ⟨gb108, 1, none⟩ = some (.int .u64 x109001_1) := bc BK108 1; have hfz31_0 := blk_frozen BK108.out 0; have hfz31_1 := blk_frozen BK108.out 1; have hnb32 := NB104_103.out; have hnc32 := NB103_104.out; have hnb33 := NB104_105.out; have hnc33 := NB105_104.out; have hnb34 := NB104_106.out; have hnc34 := NB106_104.out; have hnb35 := NB104_107.out; have hnc35 := NB107_104.out; have hcz36_0 : w21.cell? ⟨gb104, 0, none⟩ = some (.int .u64 a1_0) := bc BK104 0; have hcz36_1 : w21.cell? ⟨gb104, 1, none⟩ = some (.int .u64 a1_1) := bc BK104 1; have hfz36_0 := blk_frozen BK104.out 0; have hfz36_1 := blk_frozen BK104.out 1
              go_wp2
              go_meet
              case rel => exact ⟨_, (true), rs, H', ⟨by have := HK1.out; first | omega | exact Nat.le_refl _⟩, kf, kf, kf, kf, kf, ⟨blk_put (blk_put BK108.out 0 _ rfl) 1 _ rfl⟩, ⟨bz⟩⟩
            · rw [if_neg c25] at H
              have c25b0 : decide (a1_1 < (Go.bits .or .u64 (IntKind.u64.wrap (x109001_1 * 2)) (x109000_1 / 9223372036854775808))) = false := decide_eq_false c25; clear c25
              by_cases c37 : (Go.bits .or .u64 (IntKind.u64.wrap (x109001_1 * 2)) (x109000_1 / 9223372036854775808)) = a1_1
              · rw [if_pos c37] at H
                have c37b0 : ((Go.bits .or .u64 (IntKind.u64.wrap (x109001_1 * 2)) (x109000_1 / 9223372036854775808)) == a1_1) = true := beq_iff_eq.mpr c37; have c37b1 : ((Go.bits .or .u64 (IntKind.u64.wrap (x109001_1 * 2)) (x109000_1 / 9223372036854775808)) != a1_1) = false := bne_eq_false_iff_eq.mpr c37; clear c37; have H' := Aside0.mk H; clear H; have hnb38 := NB108_103.out; have hnc38 := NB103_108.out; have hnb39 := NB108_104.out; have hnc39 := NB104_108.out; have hnb40 := NB108_105.out; have hnc40 := NB105_108.out; have hnb41 := NB108_106.out; have hnc41 := NB106_108.out; have hnb42 := NB108_107.out; have hnc42 := NB107_108.out; have hcz43_0 : w21.cell? ⟨gb108, 0, none⟩ = some (.int .u64 x109000_1) := bc BK108 0; have hcz43_1 : w21.cell? ⟨gb108, 1, none⟩ = some (.int .u64 x109001_1) := bc BK108 1; have hfz43_0 := blk_frozen BK108.out 0; have hfz43_1 := blk_frozen BK108.out 1; have hnb44 := NB104_103.out; have hnc44 := NB103_104.out; have hnb45 := NB104_105.out; have hnc45 := NB105_104.out; have hnb46 := NB104_106.out; have hnc46 := NB106_104.out; have hnb47 := NB104_107.out; have hnc47 := NB107_104.out; have hcz48_0 : w21.cell? ⟨gb104, 0, none⟩ = some (.int .u64 a1_0) := bc BK104 0; have hcz48_1 : w21.cell? ⟨gb104, 1, none⟩ = some (.int .u64 a1_1) := bc BK104 1; have hfz48_0 := blk_frozen BK104.out 0; have hfz48_1 := blk_frozen BK104.out 1
                go_wp2
                go_meet
                case rel => exact ⟨_, (decide ((Go.bits .or .u64 (IntKind.u64.wrap (x109000_1 * 2)) (Go.bits .and .u64 (ji13) 1)) ≥ a1_0)), (by first | rfl | (simp; done) | (simp only [← hji13] <;> (first | rfl | simp)) | (simp [*]; done)), H', ⟨by have := HK1.out; first | omega | exact Nat.le_refl _⟩, kf, kf, kf, kf, kf, ⟨blk_put (blk_put BK108.out 0 _ rfl) 1 _ rfl⟩, ⟨bz⟩⟩
              · rw [if_neg c37] at H
                have c37b0 : ((Go.bits .or .u64 (IntKind.u64.wrap (x109001_1 * 2)) (x109000_1 / 9223372036854775808)) == a1_1) = false := beq_eq_false_iff_ne.mpr c37; have c37b1 : ((Go.bits .or .u64 (IntKind.u64.wrap (x109001_1 * 2)) (x109000_1 / 9223372036854775808)) != a1_1) = true := bne_iff_ne.mpr c37; have H' := Aside0.mk H; clear H; have hnb49 := NB108_103.out; have hnc49 := NB103_108.out; have hnb50 := NB108_104.out; have hnc50 := NB104_108.out; have hnb51 := NB108_105.out; have hnc51 := NB105_108.out; have hnb52 := NB108_106.out; have hnc52 := NB106_108.out; have hnb53 := NB108_107.out; have hnc53 := NB107_108.out; have hcz54_0 : w21.cell? ⟨gb108, 0, none⟩ = some (.int .u64 x109000_1) := bc BK108 0; have hcz54_1 : w21.cell? ⟨gb108, 1, none⟩ = some (.int .u64 x109001_1) := bc BK108 1; have hfz54_0 := blk_frozen BK108.out 0; have hfz54_1 := blk_frozen BK108.out 1; have hnb55 := NB104_103.out; have hnc55 := NB103_104.out; have hnb56 := NB104_105.out; have hnc56 := NB105_104.out; have hnb57 := NB104_106.out; have hnc57 := NB106_104.out; have hnb58 := NB104_107.out; have hnc58 := NB107_104.out; have hcz59_0 : w21.cell? ⟨gb104, 0, none⟩ = some (.int .u64 a1_0) := bc BK104 0; have hcz59_1 : w21.cell? ⟨gb104, 1, none⟩ = some (.int .u64 a1_1) := bc BK104 1; have hfz59_0 := blk_frozen BK104.out 0; have hfz59_1 := blk_frozen BK104.out 1
                go_wp2
                go_meet
                case rel => exact ⟨_, (false), rs, H', ⟨by have := HK1.out; first | omega | exact Nat.le_refl _⟩, kf, kf, kf, kf, kf, ⟨blk_put (blk_put BK108.out 0 _ rfl) 1 _ rfl⟩, ⟨bz⟩⟩
         case rest =>
          clear HC14
          try clear c1
          try clear c2
          try clear p2
          try clear c3
          try clear c4
          try clear c5
          try clear c6
          try clear p6
          try clear c9
          try clear c9b0
          try clear c10
          try clear c10b0
          try clear c10b1
          try clear c12
          try clear c12b0
          try clear c12b1
          try clear c15
          try clear c16
          try clear c17
          try clear c18
          try clear c19
          try clear c24
          try clear c24b0
          try clear c24b1
          try clear c25
          try clear c25b0
          try clear c26
          try clear c27
          try clear c28
          try clear c29
          try clear c30
          try clear c32
          try clear c33
          try clear c34
          try clear c35
          try clear c37
          try clear c37b0
          try clear c37b1
          try clear c38
          try clear c39
          try clear c40
          try clear c41
          try clear c42
          try clear c44
          try clear c45
          try clear c46
          try clear c47
          try clear c49
          try clear c50
          try clear c51
          try clear c52
          try clear c53
          try clear c55
          try clear c56
          try clear c57
          try clear c58
          try clear hcz20_0
          try clear hcz20_1
          try clear hcz31_0
          try clear hcz31_1
          try clear hcz36_0
          try clear hcz36_1
          try clear hcz43_0
          try clear hcz43_1
          try clear hcz48_0
          try clear hcz48_1
          try clear hcz54_0
          try clear hcz54_1
          try clear hcz59_0
          try clear hcz59_1
          try clear hfz20_0
          try clear hfz20_1
          try clear hfz31_0
          try clear hfz31_1
          try clear hfz36_0
          try clear hfz36_1
          try clear hfz43_0
          try clear hfz43_1
          try clear hfz48_0
          try clear hfz48_1
          try clear hfz54_0
          try clear hfz54_1
          try clear hfz59_0
          try clear hfz59_1
          try clear p2
          obtain ⟨kq, x64_13, rfl, HA, HJ13, BK103, BK104, BK105, BK106, BK107, BK108, HB⟩ := hcut
          cases kq with
          | zero => exact absurd HA.out (by simp [wide_divided.j1])
          | succ kj13 =>
           have H := HA.out; clear HA
           simp only [wide_divided.j1] at H
           by_cases c60 : x64_13 = true
           · subst c60
             have H1 : (if (subHi (Go.bits .or .u64 (IntKind.u64.wrap (x109000_1 * 2)) (Go.bits .and .u64 (ji13) 1)) a1_0 0) ≤ 1 then (if (wrap64 (Int.tdiv x8_1 64)) = 0 then (if 0 ≤ (IntKind.u64.wrap (Int.tmod x8_1 64)) then (wide_divided.l0 kj13 (wrap64 (x8_1 - 1)) a0_0 a0_1 a1_0 a1_1 (Go.bits .or .u64 x108000_1 (shl .u64 1 (IntKind.u64.wrap (Int.tmod x8_1 64)))) x108001_1 (subLo (Go.bits .or .u64 (IntKind.u64.wrap (x109000_1 * 2)) (Go.bits .and .u64 (ji13) 1)) a1_0 0) (subLo (Go.bits .or .u64 (IntKind.u64.wrap (x109001_1 * 2)) (x109000_1 / 9223372036854775808)) a1_1 (subHi (Go.bits .or .u64 (IntKind.u64.wrap (x109000_1 * 2)) (Go.bits .and .u64 (ji13) 1)) a1_0 0))) else (none)) else (if (wrap64 (Int.tdiv x8_1 64)) = 1 then (if 0 ≤ (IntKind.u64.wrap (Int.tmod x8_1 64)) then (wide_divided.l0 kj13 (wrap64 (x8_1 - 1)) a0_0 a0_1 a1_0 a1_1 x108000_1 (Go.bits .or .u64 x108001_1 (shl .u64 1 (IntKind.u64.wrap (Int.tmod x8_1 64)))) (subLo (Go.bits .or .u64 (IntKind.u64.wrap (x109000_1 * 2)) (Go.bits .and .u64 (ji13) 1)) a1_0 0) (subLo (Go.bits .or .u64 (IntKind.u64.wrap (x109001_1 * 2)) (x109000_1 / 9223372036854775808)) a1_1 (subHi (Go.bits .or .u64 (IntKind.u64.wrap (x109000_1 * 2)) (Go.bits .and .u64 (ji13) 1)) a1_0 0))) else (none)) else (none))) else (none)) = some (r1, r2, r3, r4) := by rw [if_pos rfl] at H; exact H
             clear H; have H := H1; clear H1
             by_cases c61 : (subHi (Go.bits .or .u64 (IntKind.u64.wrap (x109000_1 * 2)) (Go.bits .and .u64 (ji13) 1)) a1_0 0) ≤ 1
             · rw [if_pos c61] at H
               have c61b0 := eq_true c61; have c61b1 : decide ((subHi (Go.bits .or .u64 (IntKind.u64.wrap (x109000_1 * 2)) (Go.bits .and .u64 (ji13) 1)) a1_0 0) ≤ 1) = true := decide_eq_true c61; clear c61
               rw [if_pos c10E] at H
               replace H : (if 0 ≤ (ji11) then (wide_divided.l0 kj13 (wrap64 (x8_1 - 1)) a0_0 a0_1 a1_0 a1_1 (Go.bits .or .u64 x108000_1 (shl .u64 1 (ji11))) x108001_1 (subLo (Go.bits .or .u64 (IntKind.u64.wrap (x109000_1 * 2)) (Go.bits .and .u64 (ji13) 1)) a1_0 0) (subLo (Go.bits .or .u64 (IntKind.u64.wrap (x109001_1 * 2)) (x109000_1 / 9223372036854775808)) a1_1 (subHi (Go.bits .or .u64 (IntKind.u64.wrap (x109000_1 * 2)) (Go.bits .and .u64 (ji13) 1)) a1_0 0))) else (none)) = some (r1, r2, r3, r4) := by first | (rw [hji11] at H; exact H) | (simp only [hji11] at H ⊢; exact H)
               by_cases c62 : 0 ≤ (ji11)
               · rw [if_pos c62] at H
                 have c62b0 := eq_true c62; have c62b1 : decide (0 ≤ (ji11)) = true := decide_eq_true c62; clear c62
                 obtain ⟨ji63, hji63⟩ : ∃ j_ : Int, (shl .u64 1 (ji11)) = j_ := ⟨_, rfl⟩
                 replace H : (wide_divided.l0 kj13 (wrap64 (x8_1 - 1)) a0_0 a0_1 a1_0 a1_1 (Go.bits .or .u64 x108000_1 (ji63)) x108001_1 (subLo (Go.bits .or .u64 (IntKind.u64.wrap (x109000_1 * 2)) (Go.bits .and .u64 (ji13) 1)) a1_0 0) (subLo (Go.bits .or .u64 (IntKind.u64.wrap (x109001_1 * 2)) (x109000_1 / 9223372036854775808)) a1_1 (subHi (Go.bits .or .u64 (IntKind.u64.wrap (x109000_1 * 2)) (Go.bits .and .u64 (ji13) 1)) a1_0 0))) = some (r1, r2, r3, r4) := by first | (rw [hji63] at H; exact H) | (simp only [hji63] at H ⊢; exact H)
                 have hji63_ : (IntKind.u64.wrap (1 * 2 ^ min (ji11).toNat 64)) = ji63 := hji63; have hji63z : (ji11) ≤ 64 → (IntKind.u64.wrap (1 * 2 ^ (ji11).toNat)) = ji63 := shl_small hji63
                 have hji63u : (IntKind.u64.wrap (2 ^ min (ji11).toNat 64)) = ji63 := by have h_ := hji63_; rw [Int.one_mul] at h_; exact h_
                 have hji63v : (ji11) ≤ 64 → (IntKind.u64.wrap (2 ^ (ji11).toNat)) = ji63 := fun hle_ => by have h_ := hji63z hle_; rw [Int.one_mul] at h_; exact h_
                 have H' := Aside0.mk H; clear H; have hnb64 := NB108_103.out; have hnc64 := NB103_108.out; have hnb65 := NB108_104.out; have hnc65 := NB104_108.out; have hnb66 := NB108_105.out; have hnc66 := NB105_108.out; have hnb67 := NB108_106.out; have hnc67 := NB106_108.out; have hnb68 := NB108_107.out; have hnc68 := NB107_108.out; have hcz69_0 : wc.cell? ⟨gb108, 0, none⟩ = some (.int .u64 (Go.bits .or .u64 (IntKind.u64.wrap (x109000_1 * 2)) (Go.bits .and .u64 (ji13) 1))) := bc BK108 0; have hcz69_1 : wc.cell? ⟨gb108, 1, none⟩ = some (.int .u64 (Go.bits .or .u64 (IntKind.u64.wrap (x109001_1 * 2)) (x109000_1 / 9223372036854775808))) := bc BK108 1; have hfz69_0 := blk_frozen BK108.out 0; have hfz69_1 := blk_frozen BK108.out 1; have hnb70 := NB104_103.out; have hnc70 := NB103_104.out; have hnb71 := NB104_105.out; have hnc71 := NB105_104.out; have hnb72 := NB104_106.out; have hnc72 := NB106_104.out; have hnb73 := NB104_107.out; have hnc73 := NB107_104.out; have hcz74_0 : wc.cell? ⟨gb104, 0, none⟩ = some (.int .u64 a1_0) := bc BK104 0; have hcz74_1 : wc.cell? ⟨gb104, 1, none⟩ = some (.int .u64 a1_1) := bc BK104 1; have hfz74_0 := blk_frozen BK104.out 0; have hfz74_1 := blk_frozen BK104.out 1; have hnb75 := NB107_103.out; have hnc75 := NB103_107.out; have hnb76 := NB107_105.out; have hnc76 := NB105_107.out; have hnb77 := NB107_106.out; have hnc77 := NB106_107.out; have hcz78_0 : wc.cell? ⟨gb107, 0, none⟩ = some (.int .u64 x108000_1) := bc BK107 0; have hcz78_1 : wc.cell? ⟨gb107, 1, none⟩ = some (.int .u64 x108001_1) := bc BK107 1; have hfz78_0 := blk_frozen BK107.out 0; have hfz78_1 := blk_frozen BK107.out 1
                 go_wp2
                 go_roundg kj13
                 case measure => have := HK1.out; have := HJ13.out; omega
                 case rel => exact ⟨(wrap64 (x8_1 - 1)), (Go.bits .or .u64 x108000_1 (ji63)), (x108001_1), (subLo (Go.bits .or .u64 (IntKind.u64.wrap (x109000_1 * 2)) (Go.bits .and .u64 (ji13) 1)) a1_0 0), (subLo (Go.bits .or .u64 (IntKind.u64.wrap (x109001_1 * 2)) (x109000_1 / 9223372036854775808)) a1_1 (subHi (Go.bits .or .u64 (IntKind.u64.wrap (x109000_1 * 2)) (Go.bits .and .u64 (ji13) 1)) a1_0 0)), rs, H', ⟨by have := HK1.out; have := HJ13.out; omega⟩, kf, kf, kf, kf, ⟨blk_put (blk_far (blk_far BK107.out NB107_108.out _) NB107_108.out _) 0 _ rfl⟩, ⟨blk_far (blk_put (blk_put BK108.out 0 _ rfl) 1 _ rfl) NB108_107.out _⟩, ⟨bz⟩⟩
               · rw [if_neg c62] at H
                 exact absurd H (by simp)
             · rw [if_neg c61] at H
               exact absurd H (by simp)
           · replace c60 := Bool.eq_false_iff.mpr c60
             subst c60
             have H1 : (wide_divided.l0 kj13 (wrap64 (x8_1 - 1)) a0_0 a0_1 a1_0 a1_1 x108000_1 x108001_1 (Go.bits .or .u64 (IntKind.u64.wrap (x109000_1 * 2)) (Go.bits .and .u64 (ji13) 1)) (Go.bits .or .u64 (IntKind.u64.wrap (x109001_1 * 2)) (x109000_1 / 9223372036854775808))) = some (r1, r2, r3, r4) := by rw [if_neg (show ¬ (false = true) by decide)] at H; exact H
             clear H; have H := H1; clear H1; have H' := Aside0.mk H; clear H
             go_wp2
             go_roundg kj13
             case measure => have := HK1.out; have := HJ13.out; omega
             case rel => exact ⟨(wrap64 (x8_1 - 1)), (x108000_1), (x108001_1), ((Go.bits .or .u64 (IntKind.u64.wrap (x109000_1 * 2)) (Go.bits .and .u64 (ji13) 1))), ((Go.bits .or .u64 (IntKind.u64.wrap (x109001_1 * 2)) (x109000_1 / 9223372036854775808))), rs, H', ⟨by have := HK1.out; have := HJ13.out; omega⟩, kf, kf, kf, kf, kf, kf, ⟨bz⟩⟩
       · rw [if_neg c12] at H
         exact absurd H (by simp)
     · rw [if_neg c10] at H
       have c10b0 : ((wrap64 (Int.tdiv x8_1 64)) == 0) = false := beq_eq_false_iff_ne.mpr c10; have c10b1 : ((wrap64 (Int.tdiv x8_1 64)) != 0) = true := bne_iff_ne.mpr c10
       by_cases c79 : (wrap64 (Int.tdiv x8_1 64)) = 1
       · rw [if_pos c79] at H
         have c79b0 : ((wrap64 (Int.tdiv x8_1 64)) == 1) = true := beq_iff_eq.mpr c79; have c79b1 : ((wrap64 (Int.tdiv x8_1 64)) != 1) = false := bne_eq_false_iff_eq.mpr c79; have c79E : (wrap64 (Int.tdiv x8_1 64)) = 1 := c79; clear c79
         obtain ⟨ji80, hji80⟩ : ∃ j_ : Int, (IntKind.u64.wrap (Int.tmod x8_1 64)) = j_ := ⟨_, rfl⟩
         replace H : (if 0 ≤ (ji80) then (if (x109001_1 / 9223372036854775808) = 1 then (wide_divided.j2 k1 x8_1 true a0_0 a0_1 a1_0 a1_1 x108000_1 x108001_1 (Go.bits .or .u64 (IntKind.u64.wrap (x109000_1 * 2)) (Go.bits .and .u64 (shr .u64 a0_1 (ji80)) 1)) (Go.bits .or .u64 (IntKind.u64.wrap (x109001_1 * 2)) (x109000_1 / 9223372036854775808))) else (if (Go.bits .or .u64 (IntKind.u64.wrap (x109001_1 * 2)) (x109000_1 / 9223372036854775808)) > a1_1 then (wide_divided.j2 k1 x8_1 true a0_0 a0_1 a1_0 a1_1 x108000_1 x108001_1 (Go.bits .or .u64 (IntKind.u64.wrap (x109000_1 * 2)) (Go.bits .and .u64 (shr .u64 a0_1 (ji80)) 1)) (Go.bits .or .u64 (IntKind.u64.wrap (x109001_1 * 2)) (x109000_1 / 9223372036854775808))) else (if (Go.bits .or .u64 (IntKind.u64.wrap (x109001_1 * 2)) (x109000_1 / 9223372036854775808)) = a1_1 then (wide_divided.j2 k1 x8_1 (decide ((Go.bits .or .u64 (IntKind.u64.wrap (x109000_1 * 2)) (Go.bits .and .u64 (shr .u64 a0_1 (ji80)) 1)) ≥ a1_0)) a0_0 a0_1 a1_0 a1_1 x108000_1 x108001_1 (Go.bits .or .u64 (IntKind.u64.wrap (x109000_1 * 2)) (Go.bits .and .u64 (shr .u64 a0_1 (ji80)) 1)) (Go.bits .or .u64 (IntKind.u64.wrap (x109001_1 * 2)) (x109000_1 / 9223372036854775808))) else (wide_divided.j2 k1 x8_1 false a0_0 a0_1 a1_0 a1_1 x108000_1 x108001_1 (Go.bits .or .u64 (IntKind.u64.wrap (x109000_1 * 2)) (Go.bits .and .u64 (shr .u64 a0_1 (ji80)) 1)) (Go.bits .or .u64 (IntKind.u64.wrap (x109001_1 * 2)) (x109000_1 / 9223372036854775808)))))) else (none)) = some (r1, r2, r3, r4) := by first | (rw [hji80] at H; exact H) | (simp only [hji80] at H ⊢; exact H)
         by_cases c81 : 0 ≤ (ji80)
         · rw [if_pos c81] at H
           have c81b0 := eq_true c81; have c81b1 : decide (0 ≤ (ji80)) = true := decide_eq_true c81; clear c81
           obtain ⟨ji82, hji82⟩ : ∃ j_ : Int, (shr .u64 a0_1 (ji80)) = j_ := ⟨_, rfl⟩
           replace H : (if (x109001_1 / 9223372036854775808) = 1 then (wide_divided.j2 k1 x8_1 true a0_0 a0_1 a1_0 a1_1 x108000_1 x108001_1 (Go.bits .or .u64 (IntKind.u64.wrap (x109000_1 * 2)) (Go.bits .and .u64 (ji82) 1)) (Go.bits .or .u64 (IntKind.u64.wrap (x109001_1 * 2)) (x109000_1 / 9223372036854775808))) else (if (Go.bits .or .u64 (IntKind.u64.wrap (x109001_1 * 2)) (x109000_1 / 9223372036854775808)) > a1_1 then (wide_divided.j2 k1 x8_1 true a0_0 a0_1 a1_0 a1_1 x108000_1 x108001_1 (Go.bits .or .u64 (IntKind.u64.wrap (x109000_1 * 2)) (Go.bits .and .u64 (ji82) 1)) (Go.bits .or .u64 (IntKind.u64.wrap (x109001_1 * 2)) (x109000_1 / 9223372036854775808))) else (if (Go.bits .or .u64 (IntKind.u64.wrap (x109001_1 * 2)) (x109000_1 / 9223372036854775808)) = a1_1 then (wide_divided.j2 k1 x8_1 (decide ((Go.bits .or .u64 (IntKind.u64.wrap (x109000_1 * 2)) (Go.bits .and .u64 (ji82) 1)) ≥ a1_0)) a0_0 a0_1 a1_0 a1_1 x108000_1 x108001_1 (Go.bits .or .u64 (IntKind.u64.wrap (x109000_1 * 2)) (Go.bits .and .u64 (ji82) 1)) (Go.bits .or .u64 (IntKind.u64.wrap (x109001_1 * 2)) (x109000_1 / 9223372036854775808))) else (wide_divided.j2 k1 x8_1 false a0_0 a0_1 a1_0 a1_1 x108000_1 x108001_1 (Go.bits .or .u64 (IntKind.u64.wrap (x109000_1 * 2)) (Go.bits .and .u64 (ji82) 1)) (Go.bits .or .u64 (IntKind.u64.wrap (x109001_1 * 2)) (x109000_1 / 9223372036854775808)))))) = some (r1, r2, r3, r4) := by first | (rw [hji82] at H; exact H) | (simp only [hji82] at H ⊢; exact H)
           have hji82_ : (a0_1 / 2 ^ min (ji80).toNat 64) = ji82 := hji82; have hji82z : (ji80) ≤ 64 → (a0_1 / 2 ^ (ji80).toNat) = ji82 := shr_small hji82; have HC83 := Aside0.mk H; clear H; have hnb84 := NB108_103.out; have hnc84 := NB103_108.out; have hnb85 := NB108_104.out; have hnc85 := NB104_108.out; have hnb86 := NB108_105.out; have hnc86 := NB105_108.out; have hnb87 := NB108_106.out; have hnc87 := NB106_108.out; have hnb88 := NB108_107.out; have hnc88 := NB107_108.out; have hcz89_0 : wr.cell? ⟨gb108, 0, none⟩ = some (.int .u64 x109000_1) := bc BK108 0; have hcz89_1 : wr.cell? ⟨gb108, 1, none⟩ = some (.int .u64 x109001_1) := bc BK108 1; have hfz89_0 := blk_frozen BK108.out 0; have hfz89_1 := blk_frozen BK108.out 1
           try go_wp2
           replace BK103 := am (blk_drew BK103.out); replace BK104 := am (blk_drew BK104.out); replace BK105 := am (blk_drew BK105.out); replace BK106 := am (blk_drew BK106.out); replace BK107 := am (blk_drew BK107.out); replace BK108 := am (blk_drew BK108.out); replace HB := am (below_drew1 HB.out)
           refine start_ (n := 22) (S := fun w' => w'.cell? ⟨gb108, 0, none⟩ = some (.int .u64 x109000_1) ∧ w'.cell? ⟨gb108, 1, none⟩ = some (.int .u64 x109001_1) ∧ w'.cell? ⟨gb103, 0, none⟩ = some (.int .u64 a0_0) ∧ w'.cell? ⟨gb103, 1, none⟩ = some (.int .u64 a0_1)) (ds := [21]) #[false, false, false, false, false, false, false, false, false, false, false, false, false, false, false, false, false, false, false, false, false, false] (by kernel_rfl) rfl rfl ⟨bc BK108 0, bc BK108 1, bc BK103 0, bc BK103 1⟩ (fun hHeld => ?_); refine with_tabW wide_divided.tab6 wide_divided.bits6 (fun HT_ HW_ => ?_)
           generalize wr.drew = w90 at BK103 BK104 BK105 BK106 BK107 BK108 HB hHeld ⊢
           refine pure_ (i := 0) (N := some 21) (v := ?_) (a' := ?_) #[true, false, false, false, false, false, false, false, false, false, false, false, false, false, false, false, false, false, false, false, false, false] rfl rfl (any_of HT_.out (by kernel_rfl)) (fun _ _ _ h => h) (Or.inl ⟨by rfl, ?_⟩) ?_ ?_
           rotate_left; · intro w'; go_simp; with_reducible rfl
           rotate_left; · simp only [Act.put, List.setIfInBounds_toArray, List.set_cons_zero, List.set_cons_succ, i64_w, i32_w]; rfl
           refine pure_ (i := 3) (N := some 24) (v := ?_) (a' := ?_) #[true, false, false, true, false, false, false, false, false, false, false, false, false, false, false, false, false, false, false, false, false, false] rfl rfl (any_of HT_.out (by kernel_rfl)) (fun _ _ _ h => h) (Or.inl ⟨by rfl, ?_⟩) ?_ ?_
           rotate_left; · intro w'; go_simp; with_reducible rfl
           rotate_left; · simp only [Act.put, List.setIfInBounds_toArray, List.set_cons_zero, List.set_cons_succ, i64_w, i32_w]; rfl
           refine pure_ (i := 4) (N := some 25) (v := ?_) (a' := ?_) #[true, false, false, true, true, false, false, false, false, false, false, false, false, false, false, false, false, false, false, false, false, false] rfl rfl (any_of HT_.out (by kernel_rfl)) (fun _ _ _ h => h) (Or.inl ⟨by rfl, ?_⟩) ?_ ?_
           rotate_left; · intro w'; go_simp; with_reducible rfl
           rotate_left; · simp only [Act.put, List.setIfInBounds_toArray, List.set_cons_zero, List.set_cons_succ, i64_w, i32_w]; rfl
           refine pure_ (i := 5) (N := some 26) (v := ?_) (a' := ?_) #[true, false, false, true, true, true, false, false, false, false, false, false, false, false, false, false, false, false, false, false, false, false] rfl rfl (any_of HT_.out (by kernel_rfl)) (fun _ _ _ h => h) (Or.inl ⟨by rfl, ?_⟩) ?_ ?_
           rotate_left; · intro w'; go_simp; with_reducible rfl
           rotate_left; · simp only [Act.put, List.setIfInBounds_toArray, List.set_cons_zero, List.set_cons_succ, i64_w, i32_w]; rfl
           refine pure_ (i := 7) (N := some 28) (v := ?_) (a' := ?_) #[true, false, false, true, true, true, false, true, false, false, false, false, false, false, false, false, false, false, false, false, false, false] rfl rfl (any_of HT_.out (by kernel_rfl)) (fun _ _ _ h => h) (Or.inl ⟨by rfl, ?_⟩) ?_ ?_
           rotate_left; · intro w'; go_simp; with_reducible rfl
           rotate_left; · simp only [Act.put, List.setIfInBounds_toArray, List.set_cons_zero, List.set_cons_succ, i64_w, i32_w]; rfl
           refine pure_ (i := 8) (N := some 29) (v := ?_) (a' := ?_) #[true, false, false, true, true, true, false, true, true, false, false, false, false, false, false, false, false, false, false, false, false, false] rfl rfl (any_of HT_.out (by kernel_rfl)) (fun _ _ _ h => h) (Or.inl ⟨by rfl, ?_⟩) ?_ ?_
           rotate_left; · intro w'; go_simp; with_reducible rfl
           rotate_left; · simp only [Act.put, List.setIfInBounds_toArray, List.set_cons_zero, List.set_cons_succ, i64_w, i32_w]; rfl
           refine pure_ (i := 9) (N := some 30) (v := ?_) (a' := ?_) #[true, false, false, true, true, true, false, true, true, true, false, false, false, false, false, false, false, false, false, false, false, false] rfl rfl (any_of HT_.out (by kernel_rfl)) (fun _ _ _ h => h) (Or.inl ⟨by rfl, ?_⟩) ?_ ?_
           rotate_left; · intro w'; go_simp; with_reducible rfl
           rotate_left; · simp only [Act.put, List.setIfInBounds_toArray, List.set_cons_zero, List.set_cons_succ, i64_w, i32_w]; rfl
           refine pure_ (i := 13) (N := some 34) (v := ?_) (a' := ?_) #[true, false, false, true, true, true, false, true, true, true, false, false, false, true, false, false, false, false, false, false, false, false] rfl rfl (any_of HT_.out (by kernel_rfl)) (fun _ _ _ h => h) (Or.inl ⟨by rfl, ?_⟩) ?_ ?_
           rotate_left; · intro w'; go_simp; with_reducible rfl
           rotate_left; · simp only [Act.put, List.setIfInBounds_toArray, List.set_cons_zero, List.set_cons_succ, i64_w, i32_w]; rfl
           refine pure_ (i := 16) (N := some 37) (v := ?_) (a' := ?_) #[true, false, false, true, true, true, false, true, true, true, false, false, false, true, false, false, true, false, false, false, false, false] rfl rfl (any_of HT_.out (by kernel_rfl)) (fun _ _ _ h => h) (Or.inl ⟨by rfl, ?_⟩) ?_ ?_
           rotate_left; · intro w'; go_simp; with_reducible rfl
           rotate_left; · simp only [Act.put, List.setIfInBounds_toArray, List.set_cons_zero, List.set_cons_succ, i64_w, i32_w]; rfl
           refine take_ (i := 1) (N := some 22) (v := ?_) (a' := ?_) #[true, true, false, true, true, true, false, true, true, true, false, false, false, true, false, false, true, false, false, false, false, false] rfl rfl (take_ofW HT_.out HW_.out (by kernel_rfl)) (fun _ _ _ h => h) (Or.inl ⟨by rfl, ?_⟩) hHeld ?_ ?_
           rotate_left
           · rintro w' ⟨s0, s1, s2, s3⟩
             go_simp
             with_reducible rfl
           rotate_left
           · simp only [Act.put, List.setIfInBounds_toArray, List.set_cons_zero, List.set_cons_succ, i64_w, i32_w]
             rfl
           refine pure_ (i := 2) (N := some 23) (v := ?_) (a' := ?_) #[true, true, true, true, true, true, false, true, true, true, false, false, false, true, false, false, true, false, false, false, false, false] rfl rfl (any_of HT_.out (by kernel_rfl)) (fun _ _ _ h => h) (Or.inl ⟨by rfl, ?_⟩) ?_ ?_
           rotate_left; · intro w'; go_simp; with_reducible rfl
           rotate_left; · simp only [Act.put, List.setIfInBounds_toArray, List.set_cons_zero, List.set_cons_succ, i64_w, i32_w]; rfl
           refine take_ (i := 6) (N := some 27) (v := ?_) (a' := ?_) #[true, true, true, true, true, true, true, true, true, true, false, false, false, true, false, false, true, false, false, false, false, false] rfl rfl (take_ofW HT_.out HW_.out (by kernel_rfl)) (fun _ _ _ h => h) (Or.inl ⟨by rfl, ?_⟩) hHeld ?_ ?_
           rotate_left
           · rintro w' ⟨s0, s1, s2, s3⟩
             go_simp
             with_reducible rfl
           rotate_left
           · simp only [Act.put, List.setIfInBounds_toArray, List.set_cons_zero, List.set_cons_succ, i64_w, i32_w]
             rfl
           refine pure_ (i := 10) (N := some 31) (v := ?_) (a' := ?_) #[true, true, true, true, true, true, true, true, true, true, true, false, false, true, false, false, true, false, false, false, false, false] rfl rfl (any_of HT_.out (by kernel_rfl)) (fun _ _ _ h => h) (Or.inl ⟨by rfl, ?_⟩) ?_ ?_
           rotate_left; · intro w'; go_simp; with_reducible rfl
           rotate_left; · simp only [Act.put, List.setIfInBounds_toArray, List.set_cons_zero, List.set_cons_succ, i64_w, i32_w]; rfl
           refine pure_ (i := 11) (N := some 32) (v := ?_) (a' := ?_) #[true, true, true, true, true, true, true, true, true, true, true, true, false, true, false, false, true, false, false, false, false, false] rfl rfl (any_of HT_.out (by kernel_rfl)) (fun _ _ _ h => h) (Or.inl ⟨by rfl, ?_⟩) ?_ ?_
           rotate_left; · intro w'; go_simp; with_reducible rfl
           rotate_left; · simp only [Act.put, List.setIfInBounds_toArray, List.set_cons_zero, List.set_cons_succ, i64_w, i32_w]; rfl
           refine pure_ (i := 12) (N := some 33) (v := ?_) (a' := ?_) #[true, true, true, true, true, true, true, true, true, true, true, true, true, true, false, false, true, false, false, false, false, false] rfl rfl (any_of HT_.out (by kernel_rfl)) (fun _ _ _ h => h) (Or.inl ⟨by rfl, ?_⟩) ?_ ?_
           rotate_left; · intro w'; go_simp; with_reducible rfl
           rotate_left; · simp only [Act.put, List.setIfInBounds_toArray, List.set_cons_zero, List.set_cons_succ, i64_w, i32_w]; rfl
           refine take_ (i := 14) (N := some 35) (v := ?_) (a' := ?_) #[true, true, true, true, true, true, true, true, true, true, true, true, true, true, true, false, true, false, false, false, false, false] rfl rfl (take_ofW HT_.out HW_.out (by kernel_rfl)) (fun _ _ _ h => h) (Or.inl ⟨by rfl, ?_⟩) hHeld ?_ ?_
           rotate_left
           · rintro w' ⟨s0, s1, s2, s3⟩
             go_simp
             with_reducible rfl
           rotate_left
           · simp only [Act.put, List.setIfInBounds_toArray, List.set_cons_zero, List.set_cons_succ, i64_w, i32_w]
             rfl
           refine pure_ (i := 15) (N := some 36) (v := ?_) (a' := ?_) #[true, true, true, true, true, true, true, true, true, true, true, true, true, true, true, true, true, false, false, false, false, false] rfl rfl (any_of HT_.out (by kernel_rfl)) (fun _ _ _ h => h) (Or.inl ⟨by rfl, ?_⟩) ?_ ?_
           rotate_left; · intro w'; go_simp; with_reducible rfl
           rotate_left; · simp only [Act.put, List.setIfInBounds_toArray, List.set_cons_zero, List.set_cons_succ, i64_w, i32_w]; rfl
           refine take_ (i := 17) (N := some 38) (v := ?_) (a' := ?_) #[true, true, true, true, true, true, true, true, true, true, true, true, true, true, true, true, true, true, false, false, false, false] rfl rfl (take_ofW HT_.out HW_.out (by kernel_rfl)) (fun _ _ _ h => h) (Or.inl ⟨by rfl, ?_⟩) hHeld ?_ ?_
           rotate_left
           · rintro w' ⟨s0, s1, s2, s3⟩
             go_simp
             with_reducible rfl
           rotate_left
           · simp only [Act.put, List.setIfInBounds_toArray, List.set_cons_zero, List.set_cons_succ, i64_w, i32_w]
             rfl
           refine pure_ (i := 18) (N := some 39) (v := ?_) (a' := ?_) #[true, true, true, true, true, true, true, true, true, true, true, true, true, true, true, true, true, true, true, false, false, false] rfl rfl (any_of HT_.out (by kernel_rfl)) (fun _ _ _ h => h) (Or.inl ⟨by rfl, ?_⟩) ?_ ?_
           rotate_left; · intro w'; go_simp; with_reducible rfl
           rotate_left; · simp only [Act.put, List.setIfInBounds_toArray, List.set_cons_zero, List.set_cons_succ, i64_w, i32_w]; rfl
           refine pure_ (i := 19) (N := some 40) (v := ?_) (a' := ?_) #[true, true, true, true, true, true, true, true, true, true, true, true, true, true, true, true, true, true, true, true, false, false] rfl rfl (any_of HT_.out (by kernel_rfl)) (fun _ _ _ h => h) (Or.inl ⟨by rfl, ?_⟩) ?_ ?_
           rotate_left; · intro w'; go_simp; with_reducible rfl
           rotate_left; · simp only [Act.put, List.setIfInBounds_toArray, List.set_cons_zero, List.set_cons_succ, i64_w, i32_w]; rfl
           refine pure_ (i := 20) (N := some 41) (v := ?_) (a' := ?_) #[true, true, true, true, true, true, true, true, true, true, true, true, true, true, true, true, true, true, true, true, true, false] rfl rfl (any_of HT_.out (by kernel_rfl)) (fun _ _ _ h => h) (Or.inl ⟨by rfl, ?_⟩) ?_ ?_
           rotate_left; · intro w'; go_simp; with_reducible rfl
           rotate_left; · simp only [Act.put, List.setIfInBounds_toArray, List.set_cons_zero, List.set_cons_succ, i64_w, i32_w]; rfl
           refine last_ (i := 21) (N := none) #[true, true, true, true, true, true, true, true, true, true, true, true, true, true, true, true, true, true, true, true, true, true] rfl rfl (one_of HT_.out (by kernel_rfl)) (by decide) (fun K hK => ?_)
           have hs91 : w90.cell? ⟨gb108, 0, none⟩ = some (.int .u64 x109000_1) := bc BK108 0; have hfs91 := blk_frozen BK108.out 0; have hns91_0 := NB103_108.out; have hns91_1 := NB104_108.out; have hns91_2 := NB105_108.out; have hns91_3 := NB106_108.out; have hns91_4 := NB107_108.out; have hms91_0 := NB108_103.out; have hms91_1 := NB108_104.out; have hms91_2 := NB108_105.out; have hms91_3 := NB108_106.out; have hms91_4 := NB108_107.out; have hs92 : w90.cell? ⟨gb108, 1, none⟩ = some (.int .u64 x109001_1) := bc BK108 1; have hfs92 := blk_frozen BK108.out 1; have hns92_0 := NB103_108.out; have hns92_1 := NB104_108.out; have hns92_2 := NB105_108.out; have hns92_3 := NB106_108.out; have hns92_4 := NB107_108.out; have hms92_0 := NB108_103.out; have hms92_1 := NB108_104.out; have hms92_2 := NB108_105.out; have hms92_3 := NB108_106.out; have hms92_4 := NB108_107.out
           refine skip_ (w1 := ?_) (by rfl) rfl ?_ ?_
           rotate_left
           · go_simp
             rfl
           refine hK.out _ _ ?_
           clear hK K
           refine done_ (done_of HT_.out (by kernel_rfl)) ?_
           go_upto_region 7 with (fail)
           go_cut [64] (fun v64 wc => ∃ (kq : Nat) (x64_82 : Bool), v64 = .bool x64_82 ∧ Aside0 (wide_divided.j2 kq x8_1 x64_82 a0_0 a0_1 a1_0 a1_1 x108000_1 x108001_1 (Go.bits .or .u64 (IntKind.u64.wrap (x109000_1 * 2)) (Go.bits .and .u64 (ji82) 1)) (Go.bits .or .u64 (IntKind.u64.wrap (x109001_1 * 2)) (x109000_1 / 9223372036854775808)) = some (r1, r2, r3, r4)) ∧ Aside0 (kq ≤ k1) ∧ Aside0 (wc.heap[gb103]? = some (.cells #[.int .u64 a0_0, .int .u64 a0_1] 62 (0, 0))) ∧ Aside0 (wc.heap[gb104]? = some (.cells #[.int .u64 a1_0, .int .u64 a1_1] 62 (0, 0))) ∧ Aside0 (wc.heap[gb105]? = some (.cells #[.int .u64 0, .int .u64 0] 62 (0, 0))) ∧ Aside0 (wc.heap[gb106]? = some (.cells #[.int .u64 0, .int .u64 0] 62 (0, 0))) ∧ Aside0 (wc.heap[gb107]? = some (.cells #[.int .u64 x108000_1, .int .u64 x108001_1] 62 (0, 0))) ∧ Aside0 (wc.heap[gb108]? = some (.cells #[.int .u64 (Go.bits .or .u64 (IntKind.u64.wrap (x109000_1 * 2)) (Go.bits .and .u64 (ji82) 1)), .int .u64 (Go.bits .or .u64 (IntKind.u64.wrap (x109001_1 * 2)) (x109000_1 / 9223372036854775808))] 62 (0, 0))) ∧ Aside0 (Below w.heap.size w wc))
           case first =>
            have H := HC83.out; clear HC83
            by_cases c93 : (x109001_1 / 9223372036854775808) = 1
            · rw [if_pos c93] at H
              have c93b0 : ((x109001_1 / 9223372036854775808) == 1) = true := beq_iff_eq.mpr c93; have c93b1 : ((x109001_1 / 9223372036854775808) != 1) = false := bne_eq_false_iff_eq.mpr c93; clear c93
              (first | rw [c93b0] | (simp only [i64_w, i32_w]; rw [c93b0]) | skip)
              have H' := Aside0.mk H; clear H
              go_wp2
              go_meet
              case rel => exact ⟨_, (true), rs, H', ⟨by have := HK1.out; first | omega | exact Nat.le_refl _⟩, kf, kf, kf, kf, kf, ⟨blk_put (blk_put BK108.out 0 _ rfl) 1 _ rfl⟩, ⟨bz⟩⟩
            · rw [if_neg c93] at H
              have c93b0 : ((x109001_1 / 9223372036854775808) == 1) = false := beq_eq_false_iff_ne.mpr c93; have c93b1 : ((x109001_1 / 9223372036854775808) != 1) = true := bne_iff_ne.mpr c93
              (first | rw [c93b0] | (simp only [i64_w, i32_w]; rw [c93b0]) | skip)
              by_cases c94 : (Go.bits .or .u64 (IntKind.u64.wrap (x109001_1 * 2)) (x109000_1 / 9223372036854775808)) > a1_1
              · rw [if_pos c94] at H
                have c94b0 : decide (a1_1 < (Go.bits .or .u64 (IntKind.u64.wrap (x109001_1 * 2)) (x109000_1 / 9223372036854775808))) = true := decide_eq_true c94; clear c94; have H' := Aside0.mk H; clear H; have hnb95 := NB108_103.out; have hnc95 := NB103_108.out; have hnb96 := NB108_104.out; have hnc96 := NB104_108.out; have hnb97 := NB108_105.out; have hnc97 := NB105_108.out; have hnb98 := NB108_106.out; have hnc98 := NB106_108.out; have hnb99 := NB108_107.out; have hnc99 := NB107_108.out; have hcz100_0 : w90.cell? ⟨gb108, 0, none⟩ = some (.int .u64 x109000_1) := bc BK108 0; have hcz100_1 : w90.cell? ⟨gb108, 1, none⟩ = some (.int .u64 x109001_1) := bc BK108 1; have hfz100_0 := blk_frozen BK108.out 0; have hfz100_1 := blk_frozen BK108.out 1; have hnb101 := NB104_103.out; have hnc101 := NB103_104.out; have hnb102 := NB104_105.out; have hnc102 := NB105_104.out; have hnb103 := NB104_106.out; have hnc103 := NB106_104.out; have hnb104 := NB104_107.out; have hnc104 := NB107_104.out; have hcz105_0 : w90.cell? ⟨gb104, 0, none⟩ = some (.int .u64 a1_0) := bc BK104 0; have hcz105_1 : w90.cell? ⟨gb104, 1, none⟩ = some (.int .u64 a1_1) := bc BK104 1; have hfz105_0 := blk_frozen BK104.out 0; have hfz105_1 := blk_frozen BK104.out 1
                go_wp2
                go_meet
                case rel => exact ⟨_, (true), rs, H', ⟨by have := HK1.out; first | omega | exact Nat.le_refl _⟩, kf, kf, kf, kf, kf, ⟨blk_put (blk_put BK108.out 0 _ rfl) 1 _ rfl⟩, ⟨bz⟩⟩
              · rw [if_neg c94] at H
                have c94b0 : decide (a1_1 < (Go.bits .or .u64 (IntKind.u64.wrap (x109001_1 * 2)) (x109000_1 / 9223372036854775808))) = false := decide_eq_false c94; clear c94
                by_cases c106 : (Go.bits .or .u64 (IntKind.u64.wrap (x109001_1 * 2)) (x109000_1 / 9223372036854775808)) = a1_1
                · rw [if_pos c106] at H
                  have c106b0 : ((Go.bits .or .u64 (IntKind.u64.wrap (x109001_1 * 2)) (x109000_1 / 9223372036854775808)) == a1_1) = true := beq_iff_eq.mpr c106; have c106b1 : ((Go.bits .or .u64 (IntKind.u64.wrap (x109001_1 * 2)) (x109000_1 / 9223372036854775808)) != a1_1) = false := bne_eq_false_iff_eq.mpr c106; clear c106; have H' := Aside0.mk H; clear H; have hnb107 := NB108_103.out; have hnc107 := NB103_108.out; have hnb108 := NB108_104.out; have hnc108 := NB104_108.out; have hnb109 := NB108_105.out; have hnc109 := NB105_108.out; have hnb110 := NB108_106.out; have hnc110 := NB106_108.out; have hnb111 := NB108_107.out; have hnc111 := NB107_108.out; have hcz112_0 : w90.cell? ⟨gb108, 0, none⟩ = some (.int .u64 x109000_1) := bc BK108 0; have hcz112_1 : w90.cell? ⟨gb108, 1, none⟩ = some (.int .u64 x109001_1) := bc BK108 1; have hfz112_0 := blk_frozen BK108.out 0; have hfz112_1 := blk_frozen BK108.out 1; have hnb113 := NB104_103.out; have hnc113 := NB103_104.out; have hnb114 := NB104_105.out; have hnc114 := NB105_104.out; have hnb115 := NB104_106.out; have hnc115 := NB106_104.out; have hnb116 := NB104_107.out; have hnc116 := NB107_104.out; have hcz117_0 : w90.cell? ⟨gb104, 0, none⟩ = some (.int .u64 a1_0) := bc BK104 0; have hcz117_1 : w90.cell? ⟨gb104, 1, none⟩ = some (.int .u64 a1_1) := bc BK104 1; have hfz117_0 := blk_frozen BK104.out 0; have hfz117_1 := blk_frozen BK104.out 1
                  go_wp2
                  go_meet
                  case rel => exact ⟨_, (decide ((Go.bits .or .u64 (IntKind.u64.wrap (x109000_1 * 2)) (Go.bits .and .u64 (ji82) 1)) ≥ a1_0)), (by first | rfl | (simp; done) | (simp only [← hji82] <;> (first | rfl | simp)) | (simp [*]; done)), H', ⟨by have := HK1.out; first | omega | exact Nat.le_refl _⟩, kf, kf, kf, kf, kf, ⟨blk_put (blk_put BK108.out 0 _ rfl) 1 _ rfl⟩, ⟨bz⟩⟩
                · rw [if_neg c106] at H
                  have c106b0 : ((Go.bits .or .u64 (IntKind.u64.wrap (x109001_1 * 2)) (x109000_1 / 9223372036854775808)) == a1_1) = false := beq_eq_false_iff_ne.mpr c106; have c106b1 : ((Go.bits .or .u64 (IntKind.u64.wrap (x109001_1 * 2)) (x109000_1 / 9223372036854775808)) != a1_1) = true := bne_iff_ne.mpr c106; have H' := Aside0.mk H; clear H; have hnb118 := NB108_103.out; have hnc118 := NB103_108.out; have hnb119 := NB108_104.out; have hnc119 := NB104_108.out; have hnb120 := NB108_105.out; have hnc120 := NB105_108.out; have hnb121 := NB108_106.out; have hnc121 := NB106_108.out; have hnb122 := NB108_107.out; have hnc122 := NB107_108.out; have hcz123_0 : w90.cell? ⟨gb108, 0, none⟩ = some (.int .u64 x109000_1) := bc BK108 0; have hcz123_1 : w90.cell? ⟨gb108, 1, none⟩ = some (.int .u64 x109001_1) := bc BK108 1; have hfz123_0 := blk_frozen BK108.out 0; have hfz123_1 := blk_frozen BK108.out 1; have hnb124 := NB104_103.out; have hnc124 := NB103_104.out; have hnb125 := NB104_105.out; have hnc125 := NB105_104.out; have hnb126 := NB104_106.out; have hnc126 := NB106_104.out; have hnb127 := NB104_107.out; have hnc127 := NB107_104.out; have hcz128_0 : w90.cell? ⟨gb104, 0, none⟩ = some (.int .u64 a1_0) := bc BK104 0; have hcz128_1 : w90.cell? ⟨gb104, 1, none⟩ = some (.int .u64 a1_1) := bc BK104 1; have hfz128_0 := blk_frozen BK104.out 0; have hfz128_1 := blk_frozen BK104.out 1
                  go_wp2
                  go_meet
                  case rel => exact ⟨_, (false), rs, H', ⟨by have := HK1.out; first | omega | exact Nat.le_refl _⟩, kf, kf, kf, kf, kf, ⟨blk_put (blk_put BK108.out 0 _ rfl) 1 _ rfl⟩, ⟨bz⟩⟩
           case rest =>
            clear HC83
            try clear c1
            try clear c2
            try clear p2
            try clear c3
            try clear c4
            try clear c5
            try clear c6
            try clear p6
            try clear c7
            try clear c8
            try clear c9
            try clear c9b0
            try clear c10
            try clear c10b0
            try clear c10b1
            try clear c11
            try clear c12
            try clear c12b0
            try clear c12b1
            try clear c15
            try clear c16
            try clear c17
            try clear c18
            try clear c19
            try clear c24
            try clear c24b0
            try clear c24b1
            try clear c25
            try clear c25b0
            try clear c26
            try clear c27
            try clear c28
            try clear c29
            try clear c30
            try clear c32
            try clear c33
            try clear c34
            try clear c35
            try clear c37
            try clear c37b0
            try clear c37b1
            try clear c38
            try clear c39
            try clear c40
            try clear c41
            try clear c42
            try clear c44
            try clear c45
            try clear c46
            try clear c47
            try clear c49
            try clear c50
            try clear c51
            try clear c52
            try clear c53
            try clear c55
            try clear c56
            try clear c57
            try clear c58
            try clear c60
            try clear c61
            try clear c61b0
            try clear c61b1
            try clear c62
            try clear c62b0
            try clear c62b1
            try clear c64
            try clear p64
            try clear c65
            try clear c66
            try clear c67
            try clear c68
            try clear c70
            try clear c71
            try clear c72
            try clear c73
            try clear c75
            try clear c76
            try clear c77
            try clear c79
            try clear c79b0
            try clear c79b1
            try clear c81
            try clear c81b0
            try clear c81b1
            try clear c84
            try clear c85
            try clear c86
            try clear c87
            try clear c88
            try clear c93
            try clear c93b0
            try clear c93b1
            try clear c94
            try clear c94b0
            try clear c95
            try clear c96
            try clear c97
            try clear c98
            try clear c99
            try clear c101
            try clear c102
            try clear c103
            try clear c104
            try clear c106
            try clear c106b0
            try clear c106b1
            try clear c107
            try clear c108
            try clear c109
            try clear c110
            try clear c111
            try clear c113
            try clear c114
            try clear c115
            try clear c116
            try clear c118
            try clear c119
            try clear c120
            try clear c121
            try clear c122
            try clear c124
            try clear c125
            try clear c126
            try clear c127
            try clear hcz100_0
            try clear hcz100_1
            try clear hcz105_0
            try clear hcz105_1
            try clear hcz112_0
            try clear hcz112_1
            try clear hcz117_0
            try clear hcz117_1
            try clear hcz123_0
            try clear hcz123_1
            try clear hcz128_0
            try clear hcz128_1
            try clear hcz20_0
            try clear hcz20_1
            try clear hcz31_0
            try clear hcz31_1
            try clear hcz36_0
            try clear hcz36_1
            try clear hcz43_0
            try clear hcz43_1
            try clear hcz48_0
            try clear hcz48_1
            try clear hcz54_0
            try clear hcz54_1
            try clear hcz59_0
            try clear hcz59_1
            try clear hcz69_0
            try clear hcz69_1
            try clear hcz74_0
            try clear hcz74_1
            try clear hcz78_0
            try clear hcz78_1
            try clear hcz89_0
            try clear hcz89_1
            try clear hfz100_0
            try clear hfz100_1
            try clear hfz105_0
            try clear hfz105_1
            try clear hfz112_0
            try clear hfz112_1
            try clear hfz117_0
            try clear hfz117_1
            try clear hfz123_0
            try clear hfz123_1
            try clear hfz128_0
            try clear hfz128_1
            try clear hfz20_0
            try clear hfz20_1
            try clear hfz31_0
            try clear hfz31_1
            try clear hfz36_0
            try clear hfz36_1
            try clear hfz43_0
            try clear hfz43_1
            try clear hfz48_0
            try clear hfz48_1
            try clear hfz54_0
            try clear hfz54_1
            try clear hfz59_0
            try clear hfz59_1
            try clear hfz69_0
            try clear hfz69_1
            try clear hfz74_0
            try clear hfz74_1
            try clear hfz78_0
            try clear hfz78_1
            try clear hfz89_0
            try clear hfz89_1
            try clear p2
            try clear p6
            obtain ⟨kq, x64_82, rfl, HA, HJ82, BK103, BK104, BK105, BK106, BK107, BK108, HB⟩ := hcut
            cases kq with
            | zero => exact absurd HA.out (by simp [wide_divided.j2])
            | succ kj82 =>
             have H := HA.out; clear HA
             simp only [wide_divided.j2] at H
             by_cases c129 : x64_82 = true
             · subst c129
               have H1 : (if (subHi (Go.bits .or .u64 (IntKind.u64.wrap (x109000_1 * 2)) (Go.bits .and .u64 (ji82) 1)) a1_0 0) ≤ 1 then (if (wrap64 (Int.tdiv x8_1 64)) = 0 then (if 0 ≤ (IntKind.u64.wrap (Int.tmod x8_1 64)) then (wide_divided.l0 kj82 (wrap64 (x8_1 - 1)) a0_0 a0_1 a1_0 a1_1 (Go.bits .or .u64 x108000_1 (shl .u64 1 (IntKind.u64.wrap (Int.tmod x8_1 64)))) x108001_1 (subLo (Go.bits .or .u64 (IntKind.u64.wrap (x109000_1 * 2)) (Go.bits .and .u64 (ji82) 1)) a1_0 0) (subLo (Go.bits .or .u64 (IntKind.u64.wrap (x109001_1 * 2)) (x109000_1 / 9223372036854775808)) a1_1 (subHi (Go.bits .or .u64 (IntKind.u64.wrap (x109000_1 * 2)) (Go.bits .and .u64 (ji82) 1)) a1_0 0))) else (none)) else (if (wrap64 (Int.tdiv x8_1 64)) = 1 then (if 0 ≤ (IntKind.u64.wrap (Int.tmod x8_1 64)) then (wide_divided.l0 kj82 (wrap64 (x8_1 - 1)) a0_0 a0_1 a1_0 a1_1 x108000_1 (Go.bits .or .u64 x108001_1 (shl .u64 1 (IntKind.u64.wrap (Int.tmod x8_1 64)))) (subLo (Go.bits .or .u64 (IntKind.u64.wrap (x109000_1 * 2)) (Go.bits .and .u64 (ji82) 1)) a1_0 0) (subLo (Go.bits .or .u64 (IntKind.u64.wrap (x109001_1 * 2)) (x109000_1 / 9223372036854775808)) a1_1 (subHi (Go.bits .or .u64 (IntKind.u64.wrap (x109000_1 * 2)) (Go.bits .and .u64 (ji82) 1)) a1_0 0))) else (none)) else (none))) else (none)) = some (r1, r2, r3, r4) := by rw [if_pos rfl] at H; exact H
               clear H; have H := H1; clear H1
               by_cases c130 : (subHi (Go.bits .or .u64 (IntKind.u64.wrap (x109000_1 * 2)) (Go.bits .and .u64 (ji82) 1)) a1_0 0) ≤ 1
               · rw [if_pos c130] at H
                 have c130b0 := eq_true c130; have c130b1 : decide ((subHi (Go.bits .or .u64 (IntKind.u64.wrap (x109000_1 * 2)) (Go.bits .and .u64 (ji82) 1)) a1_0 0) ≤ 1) = true := decide_eq_true c130; clear c130
                 rw [if_neg (by rw [c79E]; decide)] at H
                 rw [if_pos c79E] at H
                 replace H : (if 0 ≤ (ji80) then (wide_divided.l0 kj82 (wrap64 (x8_1 - 1)) a0_0 a0_1 a1_0 a1_1 x108000_1 (Go.bits .or .u64 x108001_1 (shl .u64 1 (ji80))) (subLo (Go.bits .or .u64 (IntKind.u64.wrap (x109000_1 * 2)) (Go.bits .and .u64 (ji82) 1)) a1_0 0) (subLo (Go.bits .or .u64 (IntKind.u64.wrap (x109001_1 * 2)) (x109000_1 / 9223372036854775808)) a1_1 (subHi (Go.bits .or .u64 (IntKind.u64.wrap (x109000_1 * 2)) (Go.bits .and .u64 (ji82) 1)) a1_0 0))) else (none)) = some (r1, r2, r3, r4) := by first | (rw [hji80] at H; exact H) | (simp only [hji80] at H ⊢; exact H)
                 by_cases c131 : 0 ≤ (ji80)
                 · rw [if_pos c131] at H
                   have c131b0 := eq_true c131; have c131b1 : decide (0 ≤ (ji80)) = true := decide_eq_true c131; clear c131
                   obtain ⟨ji132, hji132⟩ : ∃ j_ : Int, (shl .u64 1 (ji80)) = j_ := ⟨_, rfl⟩
                   replace H : (wide_divided.l0 kj82 (wrap64 (x8_1 - 1)) a0_0 a0_1 a1_0 a1_1 x108000_1 (Go.bits .or .u64 x108001_1 (ji132)) (subLo (Go.bits .or .u64 (IntKind.u64.wrap (x109000_1 * 2)) (Go.bits .and .u64 (ji82) 1)) a1_0 0) (subLo (Go.bits .or .u64 (IntKind.u64.wrap (x109001_1 * 2)) (x109000_1 / 9223372036854775808)) a1_1 (subHi (Go.bits .or .u64 (IntKind.u64.wrap (x109000_1 * 2)) (Go.bits .and .u64 (ji82) 1)) a1_0 0))) = some (r1, r2, r3, r4) := by first | (rw [hji132] at H; exact H) | (simp only [hji132] at H ⊢; exact H)
                   have hji132_ : (IntKind.u64.wrap (1 * 2 ^ min (ji80).toNat 64)) = ji132 := hji132; have hji132z : (ji80) ≤ 64 → (IntKind.u64.wrap (1 * 2 ^ (ji80).toNat)) = ji132 := shl_small hji132
                   have hji132u : (IntKind.u64.wrap (2 ^ min (ji80).toNat 64)) = ji132 := by have h_ := hji132_; rw [Int.one_mul] at h_; exact h_
                   have hji132v : (ji80) ≤ 64 → (IntKind.u64.wrap (2 ^ (ji80).toNat)) = ji132 := fun hle_ => by have h_ := hji132z hle_; rw [Int.one_mul] at h_; exact h_
                   have H' := Aside0.mk H; clear H; have hnb133 := NB108_103.out; have hnc133 := NB103_108.out; have hnb134 := NB108_104.out; have hnc134 := NB104_108.out; have hnb135 := NB108_105.out; have hnc135 := NB105_108.out; have hnb136 := NB108_106.out; have hnc136 := NB106_108.out; have hnb137 := NB108_107.out; have hnc137 := NB107_108.out; have hcz138_0 : wc.cell? ⟨gb108, 0, none⟩ = some (.int .u64 (Go.bits .or .u64 (IntKind.u64.wrap (x109000_1 * 2)) (Go.bits .and .u64 (ji82) 1))) := bc BK108 0; have hcz138_1 : wc.cell? ⟨gb108, 1, none⟩ = some (.int .u64 (Go.bits .or .u64 (IntKind.u64.wrap (x109001_1 * 2)) (x109000_1 / 9223372036854775808))) := bc BK108 1; have hfz138_0 := blk_frozen BK108.out 0; have hfz138_1 := blk_frozen BK108.out 1; have hnb139 := NB104_103.out; have hnc139 := NB103_104.out; have hnb140 := NB104_105.out; have hnc140 := NB105_104.out; have hnb141 := NB104_106.out; have hnc141 := NB106_104.out; have hnb142 := NB104_107.out; have hnc142 := NB107_104.out; have hcz143_0 : wc.cell? ⟨gb104, 0, none⟩ = some (.int .u64 a1_0) := bc BK104 0; have hcz143_1 : wc.cell? ⟨gb104, 1, none⟩ = some (.int .u64 a1_1) := bc BK104 1; have hfz143_0 := blk_frozen BK104.out 0; have hfz143_1 := blk_frozen BK104.out 1; have hnb144 := NB107_103.out; have hnc144 := NB103_107.out; have hnb145 := NB107_105.out; have hnc145 := NB105_107.out; have hnb146 := NB107_106.out; have hnc146 := NB106_107.out; have hcz147_0 : wc.cell? ⟨gb107, 0, none⟩ = some (.int .u64 x108000_1) := bc BK107 0; have hcz147_1 : wc.cell? ⟨gb107, 1, none⟩ = some (.int .u64 x108001_1) := bc BK107 1; have hfz147_0 := blk_frozen BK107.out 0; have hfz147_1 := blk_frozen BK107.out 1
                   go_wp2
                   go_roundg kj82
                   case measure => have := HK1.out; have := HJ82.out; omega
                   case rel => exact ⟨(wrap64 (x8_1 - 1)), (x108000_1), (Go.bits .or .u64 x108001_1 (ji132)), (subLo (Go.bits .or .u64 (IntKind.u64.wrap (x109000_1 * 2)) (Go.bits .and .u64 (ji82) 1)) a1_0 0), (subLo (Go.bits .or .u64 (IntKind.u64.wrap (x109001_1 * 2)) (x109000_1 / 9223372036854775808)) a1_1 (subHi (Go.bits .or .u64 (IntKind.u64.wrap (x109000_1 * 2)) (Go.bits .and .u64 (ji82) 1)) a1_0 0)), rs, H', ⟨by have := HK1.out; have := HJ82.out; omega⟩, kf, kf, kf, kf, ⟨blk_put (blk_far (blk_far BK107.out NB107_108.out _) NB107_108.out _) 1 _ rfl⟩, ⟨blk_far (blk_put (blk_put BK108.out 0 _ rfl) 1 _ rfl) NB108_107.out _⟩, ⟨bz⟩⟩
                 · rw [if_neg c131] at H
                   exact absurd H (by simp)
               · rw [if_neg c130] at H
                 exact absurd H (by simp)
             · replace c129 := Bool.eq_false_iff.mpr c129
               subst c129
               have H1 : (wide_divided.l0 kj82 (wrap64 (x8_1 - 1)) a0_0 a0_1 a1_0 a1_1 x108000_1 x108001_1 (Go.bits .or .u64 (IntKind.u64.wrap (x109000_1 * 2)) (Go.bits .and .u64 (ji82) 1)) (Go.bits .or .u64 (IntKind.u64.wrap (x109001_1 * 2)) (x109000_1 / 9223372036854775808))) = some (r1, r2, r3, r4) := by rw [if_neg (show ¬ (false = true) by decide)] at H; exact H
               clear H; have H := H1; clear H1; have H' := Aside0.mk H; clear H
               go_wp2
               go_roundg kj82
               case measure => have := HK1.out; have := HJ82.out; omega
               case rel => exact ⟨(wrap64 (x8_1 - 1)), (x108000_1), (x108001_1), ((Go.bits .or .u64 (IntKind.u64.wrap (x109000_1 * 2)) (Go.bits .and .u64 (ji82) 1))), ((Go.bits .or .u64 (IntKind.u64.wrap (x109001_1 * 2)) (x109000_1 / 9223372036854775808))), rs, H', ⟨by have := HK1.out; have := HJ82.out; omega⟩, kf, kf, kf, kf, kf, kf, ⟨bz⟩⟩
         · rw [if_neg c81] at H
           exact absurd H (by simp)
       · rw [if_neg c79] at H
         exact absurd H (by simp)
   · rw [if_neg c9] at H
     have c9b0 : decide (0 ≤ x8_1) = false := decide_eq_false c9; clear c9
     simp only [Option.some.injEq, Prod.mk.injEq] at H
     obtain ⟨rfl, rfl, rfl, rfl⟩ := H
     try go_wp2
     replace BK103 := am (blk_drew BK103.out); replace BK104 := am (blk_drew BK104.out); replace BK105 := am (blk_drew BK105.out); replace BK106 := am (blk_drew BK106.out); replace BK107 := am (blk_drew BK107.out); replace BK108 := am (blk_drew BK108.out); replace HB := am (below_drew1 HB.out)
     refine start_ (n := 4) (S := fun w' => w'.cell? ⟨gb107, 0, none⟩ = some (.int .u64 x108000_1) ∧ w'.cell? ⟨gb107, 1, none⟩ = some (.int .u64 x108001_1) ∧ w'.cell? ⟨gb108, 0, none⟩ = some (.int .u64 x109000_1) ∧ w'.cell? ⟨gb108, 1, none⟩ = some (.int .u64 x109001_1)) (ds := []) #[false, false, false, false] (by kernel_rfl) rfl rfl ⟨bc BK107 0, bc BK107 1, bc BK108 0, bc BK108 1⟩ (fun hHeld => ?_)
     generalize wr.drew = w148 at BK103 BK104 BK105 BK106 BK107 BK108 HB hHeld ⊢
     refine take_ (i := 0) (N := some 95) (v := ?_) (a' := ?_) #[true, false, false, false] rfl rfl (by kernel_rfl) (fun _ _ _ h => h) (Or.inl ⟨by rfl, ?_⟩) hHeld ?_ ?_
     rotate_left
     · rintro w' ⟨s0, s1, s2, s3⟩
       go_simp
       with_reducible rfl
     rotate_left
     · simp only [Act.put, List.setIfInBounds_toArray, List.set_cons_zero, List.set_cons_succ, i64_w, i32_w]
       rfl
     refine take_ (i := 1) (N := some 96) (v := ?_) (a' := ?_) #[true, true, false, false] rfl rfl (by kernel_rfl) (fun _ _ _ h => h) (Or.inl ⟨by rfl, ?_⟩) hHeld ?_ ?_
     rotate_left
     · rintro w' ⟨s0, s1, s2, s3⟩
       go_simp
       with_reducible rfl
     rotate_left
     · simp only [Act.put, List.setIfInBounds_toArray, List.set_cons_zero, List.set_cons_succ, i64_w, i32_w]
       rfl
     refine one_ (i := 2) (N := none) #[true, true, true, false] rfl rfl (by kernel_rfl) (by decide) (fun K hK => ?_)
     have hs149 : w148.cell? ⟨gb105, 0, none⟩ = some (.int .u64 0) := bc BK105 0; have hfs149 := blk_frozen BK105.out 0; have hns149_0 := NB103_105.out; have hns149_1 := NB104_105.out; have hns149_3 := NB106_105.out; have hns149_4 := NB107_105.out; have hns149_5 := NB108_105.out; have hms149_0 := NB105_103.out; have hms149_1 := NB105_104.out; have hms149_3 := NB105_106.out; have hms149_4 := NB105_107.out; have hms149_5 := NB105_108.out; have hs150 : w148.cell? ⟨gb105, 1, none⟩ = some (.int .u64 0) := bc BK105 1; have hfs150 := blk_frozen BK105.out 1; have hns150_0 := NB103_105.out; have hns150_1 := NB104_105.out; have hns150_3 := NB106_105.out; have hns150_4 := NB107_105.out; have hns150_5 := NB108_105.out; have hms150_0 := NB105_103.out; have hms150_1 := NB105_104.out; have hms150_3 := NB105_106.out; have hms150_4 := NB105_107.out; have hms150_5 := NB105_108.out
     refine skip_ (w1 := ?_) (by rfl) rfl ?_ ?_
     rotate_left
     · go_simp
       rfl
     refine hK.out _ _ ⟨((cell_far (p := ⟨gb105, _, none⟩) NB107_105.out _).trans (((cell_far (p := ⟨gb105, _, none⟩) NB107_105.out _).trans (hHeld.1)))), ((cell_far (p := ⟨gb105, _, none⟩) NB107_105.out _).trans (((cell_far (p := ⟨gb105, _, none⟩) NB107_105.out _).trans (hHeld.2.1)))), ((cell_far (p := ⟨gb105, _, none⟩) NB108_105.out _).trans (((cell_far (p := ⟨gb105, _, none⟩) NB108_105.out _).trans (hHeld.2.2.1)))), ((cell_far (p := ⟨gb105, _, none⟩) NB108_105.out _).trans (((cell_far (p := ⟨gb105, _, none⟩) NB108_105.out _).trans (hHeld.2.2.2))))⟩ (fun hHeld => ?_)
     clear hK K
     refine one_ (i := 3) (N := none) #[true, true, true, true] rfl rfl (by kernel_rfl) (by decide) (fun K hK => ?_)
     have hs151 : w148.cell? ⟨gb106, 0, none⟩ = some (.int .u64 0) := bc BK106 0; have hfs151 := blk_frozen BK106.out 0; have hns151_0 := NB103_106.out; have hns151_1 := NB104_106.out; have hns151_2 := NB105_106.out; have hns151_4 := NB107_106.out; have hns151_5 := NB108_106.out; have hms151_0 := NB106_103.out; have hms151_1 := NB106_104.out; have hms151_2 := NB106_105.out; have hms151_4 := NB106_107.out; have hms151_5 := NB106_108.out; have hs152 : w148.cell? ⟨gb106, 1, none⟩ = some (.int .u64 0) := bc BK106 1; have hfs152 := blk_frozen BK106.out 1; have hns152_0 := NB103_106.out; have hns152_1 := NB104_106.out; have hns152_2 := NB105_106.out; have hns152_4 := NB107_106.out; have hns152_5 := NB108_106.out; have hms152_0 := NB106_103.out; have hms152_1 := NB106_104.out; have hms152_2 := NB106_105.out; have hms152_4 := NB106_107.out; have hms152_5 := NB106_108.out
     refine skip_ (w1 := ?_) (by rfl) rfl ?_ ?_
     rotate_left
     · go_simp
       rfl
     refine hK.out _ _ ⟨((cell_far (p := ⟨gb106, _, none⟩) NB107_106.out _).trans (((cell_far (p := ⟨gb106, _, none⟩) NB107_106.out _).trans (hHeld.1)))), ((cell_far (p := ⟨gb106, _, none⟩) NB107_106.out _).trans (((cell_far (p := ⟨gb106, _, none⟩) NB107_106.out _).trans (hHeld.2.1)))), ((cell_far (p := ⟨gb106, _, none⟩) NB108_106.out _).trans (((cell_far (p := ⟨gb106, _, none⟩) NB108_106.out _).trans (hHeld.2.2.1)))), ((cell_far (p := ⟨gb106, _, none⟩) NB108_106.out _).trans (((cell_far (p := ⟨gb106, _, none⟩) NB108_106.out _).trans (hHeld.2.2.2))))⟩ (fun hHeld => ?_)
     clear hK K
     refine done_ (by kernel_rfl) ?_
     try go_wp2
     refine bodyPost_ret (results_cc rfl _ _ gb105 gb106 62 62 #[.int .u64 x108000_1, .int .u64 x108001_1] #[.int .u64 x109000_1, .int .u64 x109001_1] (0, 0) (0, 0) _ _ rfl (blk_far (blk_far (blk_put (blk_put BK105.out 0 _ rfl) 1 _ rfl) NB105_106.out _) NB105_106.out _) Tryd.underlying62 rfl (by kernel_rfl) rfl (blk_put (blk_put (blk_far (blk_far BK106.out NB106_105.out _) NB106_105.out _) 0 _ rfl) 1 _ rfl) Tryd.underlying62 rfl (by kernel_rfl)) rfl ?_
     exact ⟨rg, bz⟩

end Go.Proofs.YtcfhmbhlibhlnaaDoor.P
