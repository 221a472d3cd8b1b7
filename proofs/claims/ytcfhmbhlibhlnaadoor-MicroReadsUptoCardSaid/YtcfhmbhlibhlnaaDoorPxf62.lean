-- Printed by this session's own pp.py (wip/tool) out of the translation.
import Derived.Test.YtcfhmbhlibhlnaaDoorPx0
import Derived.Test.YtcfhmbhlibhlnaaDoorPxf93
import Derived.Test.YtcfhmbhlibhlnaaDoorPxf95
namespace Go.Proofs.YtcfhmbhlibhlnaaDoor.P
open Go.RowKit Go.Proofs.YtcfhmbhlibhlnaaDoorW.PrintWords Go.Proofs.YtcfhmbhlibhlnaaDoorW.PrintLast Go.Proofs.YtcfhmbhlibhlnaaDoorW.PrintMore Go.Proofs.YtcfhmbhlibhlnaaDoor.Mine
attribute [local go_sem] ext71 ext79 eqA61 eqA62
attribute [local go_sem] max2_int min2_int max_two min_two max_three min_three max_four min_four   -- for this text's walks alone
set_option linter.unusedVariables false
set_option linter.unusedSimpArgs false

/-! ### tumblerref02_Read: function 62 -/
def tumblerref02_Read.f (k : Nat) (a0 : ByteArray) : Option (Int × Int × Int) := (tumblerref02_taken.f k a0).bind fun bt1120 => (if bt1120.2.2.2.2 = 0 then ((tumblerref02_Signed.f k bt1120.1 bt1120.2.1 bt1120.2.2.1 bt1120.2.2.2.1).bind fun bt1126 => (if bt1126.2.2 = true then (some (bt1126.1, bt1126.2.1, 0)) else (some (0, 0, 10)))) else (some (0, 0, bt1120.2.2.2.2)))
theorem tumblerref02_Read.mono : ∀ a0 k, LeO (tumblerref02_Read.f k a0) (tumblerref02_Read.f (k + 1) a0) := by
 intro a0 k
 unfold tumblerref02_Read.f
 repeat' first
  | (with_reducible exact tumblerref02_Signed.mono _ _ _ _ _)
  | (with_reducible exact tumblerref02_taken.mono _ _)
  | (with_reducible exact LeO.refl _)
  | (with_reducible exact LeO.none _)
  | (with_reducible refine LeO.ite ?_ ?_)
  | (with_reducible refine LeO.bind ?_ (fun _ => ?_))
  | exact tumblerref02_Signed.mono _ _ _ _ _
  | exact tumblerref02_taken.mono _ _
  | exact LeO.none _
  | refine LeO.ite ?_ ?_
  | refine LeO.bind ?_ (fun _ => ?_)
set_option maxHeartbeats 8000000 in
set_option maxRecDepth 100000 in
theorem tumblerref02_Read.calls (k : Nat) (a0 : ByteArray) (r1 : Int) (r2 : Int) (r3 : Int) (w : World) (h : tumblerref02_Read.f k a0 = some (r1, r2, r3)) :
 Calls Tryd.prog 62 #[.string a0] w fun e w' => e = .returned (.tuple #[.agg #[.int .i64 r1, .int .u64 r2], .int .i64 r3]) ∧ Below w.heap.size w w' := by
 have hu24 := Tryd.underlying24; have hu93 := Tryd.underlying93; have HB := am (Below.refl w.heap.size w); have H : ((tumblerref02_taken.f k a0).bind fun bt1120 => (if bt1120.2.2.2.2 = 0 then ((tumblerref02_Signed.f k bt1120.1 bt1120.2.1 bt1120.2.2.1 bt1120.2.2.2.1).bind fun bt1126 => (if bt1126.2.2 = true then (some (bt1126.1, bt1126.2.1, 0)) else (some (0, 0, 10)))) else (some (0, 0, bt1120.2.2.2.2)))) = some (r1, r2, r3) := h; clear h
 replace H := Option.bind_eq_some_iff.mp H
 obtain ⟨⟨t1120, t1121, t1122, t1123, t1124⟩, A20, H⟩ := H
 replace H : (if t1124 = 0 then ((tumblerref02_Signed.f k t1120 t1121 t1122 t1123).bind fun bt1126 => (if bt1126.2.2 = true then (some (bt1126.1, bt1126.2.1, 0)) else (some (0, 0, 10)))) else (some (0, 0, t1124))) = some (r1, r2, r3) := H
 have A2 := Aside0.mk A20; clear A20
 by_cases c3 : t1124 = 0
 · rw [if_pos c3] at H
   have c3b0 : (t1124 == 0) = true := beq_iff_eq.mpr c3; have c3b1 : (t1124 != 0) = false := bne_eq_false_iff_eq.mpr c3; clear c3
   replace H := Option.bind_eq_some_iff.mp H
   obtain ⟨⟨t1126, t1127, t1128⟩, A40, H⟩ := H
   replace H : (if t1128 = true then (some (t1126, t1127, 0)) else (some (0, 0, 10))) = some (r1, r2, r3) := H
   have A4 := Aside0.mk A40; clear A40
   by_cases c5 : t1128 = true
   · subst c5
     have H1 : (some (t1126, t1127, 0)) = some (r1, r2, r3) := by rw [if_pos rfl] at H; exact H
     clear H; have H := H1; clear H1
     simp only [Option.some.injEq, Prod.mk.injEq] at H
     obtain ⟨rfl, rfl, rfl⟩ := H
     go_enter Tryd.func62, Tryd.ntmps62
     go_wp2_with (first | ((with_reducible refine gate_dst (N := 2) rfl ?_); refine box_event (by rfl) (N := 2) (by rfl) (cs := #[.int .i64 0, .int .u64 0]) (t := 24) (by go_simp <;> rfl) ?_; intro gb1119 hg w6 hbox hb; have BK1119 := am (hbox); have GW1119 := gw w hg; replace HB := am (below_step bz hb); clear hb hbox hg) | ((with_reducible refine gate_callee (f := 93) rfl ?_); refine goesL_ (some 11) rfl rfl Tryd.func93 (by kernel_rfl) rfl #[.string a0] rfl rf ?_; (with_reducible refine (tumblerref02_taken.calls k a0 t1120 t1121 t1122 t1123 t1124 _ A2.out).mono ?_); rintro e w7 ⟨rfl, hb⟩; refine ⟨_, rfl, ?_⟩; replace BK1119 := am (bb BK1119 hb); replace HB := am (below_step bz hb); (try clear hb); (try clear hb2); (try clear hk); (try clear hi)) | ((with_reducible refine gate_dst (N := 4) rfl ?_); refine box_event (by rfl) (N := 4) (by rfl) (cs := #[.int .u64 0, .int .u64 0, .bool false]) (t := 93) (by go_simp <;> rfl) ?_; intro gb1125 hg w8 hbox hb; have BK1125 := am (hbox); have GW1125 := gw w hg; replace HB := am (below_step bz hb); have NB1119_1125 := nl BK1119 hg; have NB1125_1119 := nr BK1119 hg; replace BK1119 := am (bb BK1119 hb); clear hb hbox hg; have hnb9 := NB1125_1119.out; have hnc9 := NB1119_1125.out; have hcz10_0 : w8.cell? ⟨gb1125, 0, none⟩ = some (.int .u64 0) := bc BK1125 0; have hcz10_1 : w8.cell? ⟨gb1125, 1, none⟩ = some (.int .u64 0) := bc BK1125 1; have hcz10_2 : w8.cell? ⟨gb1125, 2, none⟩ = some (.bool false) := bc BK1125 2; have hfz10_0 := blk_frozen BK1125.out 0; have hfz10_1 := blk_frozen BK1125.out 1; have hfz10_2 := blk_frozen BK1125.out 2) | ((with_reducible refine gate_callee (f := 95) rfl ?_); refine goesL_ (some 22) rfl rfl Tryd.func95 (by kernel_rfl) rfl #[.agg #[.int .u64 t1120, .int .u64 t1121, .bool t1122], .bool t1123] rfl rf ?_; (with_reducible refine (tumblerref02_Signed.calls k t1120 t1121 t1122 t1123 t1126 t1127 true _ A4.out).mono ?_); rintro e w11 ⟨rfl, hb⟩; refine ⟨_, rfl, ?_⟩; replace BK1119 := am (blk_below (g := gb1119) (o := .cells #[.int .i64 0, .int .u64 0] 24 (0, 0)) kg hb); replace BK1125 := am (blk_below (g := gb1125) (o := .cells #[.int .u64 t1120, .int .u64 t1121, .bool t1122] 93 (0, 0)) (blk_put (blk_put (blk_put BK1125.out 0 _ rfl) 1 _ rfl) 2 _ rfl) hb); replace HB := am (below_step bz hb); (try clear hb); (try clear hb2); (try clear hk); (try clear hi)) | ((with_reducible refine gate_dst (N := 7) rfl ?_); refine box_event (by rfl) (N := 7) (by rfl) (cs := #[.int .i64 0, .int .u64 0]) (t := 24) (by go_simp <;> rfl) ?_; intro gb1129 hg w12 hbox hb; have BK1129 := am (hbox); have GW1129 := gw w hg; replace HB := am (below_step bz hb); have NB1119_1129 := nl BK1119 hg; have NB1129_1119 := nr BK1119 hg; replace BK1119 := am (bb BK1119 hb); have NB1125_1129 := nl BK1125 hg; have NB1129_1125 := nr BK1125 hg; replace BK1125 := am (bb BK1125 hb); clear hb hbox hg; have hnb13 := NB1129_1119.out; have hnc13 := NB1119_1129.out; have hnb14 := NB1129_1125.out; have hnc14 := NB1125_1129.out; have hcz15_0 : w12.cell? ⟨gb1129, 0, none⟩ = some (.int .i64 0) := bc BK1129 0; have hcz15_1 : w12.cell? ⟨gb1129, 1, none⟩ = some (.int .u64 0) := bc BK1129 1; have hfz15_0 := blk_frozen BK1129.out 0; have hfz15_1 := blk_frozen BK1129.out 1; have hcz16_0 : w12.cell? ⟨gb1119, 0, none⟩ = some (.int .i64 0) := bc BK1119 0; have hcz16_1 : w12.cell? ⟨gb1119, 1, none⟩ = some (.int .u64 0) := bc BK1119 1; have hfz16_0 := blk_frozen BK1119.out 0; have hfz16_1 := blk_frozen BK1119.out 1))
     refine bodyPost_ret (results_ct rfl _ _ gb1119 24 #[.int .i64 t1126, .int .u64 t1127] (0, 0) _ rfl (blk_put (blk_put (blk_far (blk_far BK1119.out NB1119_1129.out _) NB1119_1129.out _) 0 _ rfl) 1 _ rfl) Tryd.underlying24 rfl (by kernel_rfl)) rfl ?_
     exact ⟨rg, bz⟩
   · replace c5 := Bool.eq_false_iff.mpr c5
     subst c5
     have H1 : (some (0, 0, 10)) = some (r1, r2, r3) := by rw [if_neg (show ¬ (false = true) by decide)] at H; exact H
     clear H; have H := H1; clear H1
     simp only [Option.some.injEq, Prod.mk.injEq] at H
     obtain ⟨rfl, rfl, rfl⟩ := H
     go_enter Tryd.func62, Tryd.ntmps62
     go_wp2_with (first | ((with_reducible refine gate_dst (N := 2) rfl ?_); refine box_event (by rfl) (N := 2) (by rfl) (cs := #[.int .i64 0, .int .u64 0]) (t := 24) (by go_simp <;> rfl) ?_; intro gb1119 hg w17 hbox hb; have BK1119 := am (hbox); have GW1119 := gw w hg; replace HB := am (below_step bz hb); clear hb hbox hg) | ((with_reducible refine gate_callee (f := 93) rfl ?_); refine goesL_ (some 11) rfl rfl Tryd.func93 (by kernel_rfl) rfl #[.string a0] rfl rf ?_; (with_reducible refine (tumblerref02_taken.calls k a0 t1120 t1121 t1122 t1123 t1124 _ A2.out).mono ?_); rintro e w18 ⟨rfl, hb⟩; refine ⟨_, rfl, ?_⟩; replace BK1119 := am (bb BK1119 hb); replace HB := am (below_step bz hb); (try clear hb); (try clear hb2); (try clear hk); (try clear hi)) | ((with_reducible refine gate_dst (N := 4) rfl ?_); refine box_event (by rfl) (N := 4) (by rfl) (cs := #[.int .u64 0, .int .u64 0, .bool false]) (t := 93) (by go_simp <;> rfl) ?_; intro gb1125 hg w19 hbox hb; have BK1125 := am (hbox); have GW1125 := gw w hg; replace HB := am (below_step bz hb); have NB1119_1125 := nl BK1119 hg; have NB1125_1119 := nr BK1119 hg; replace BK1119 := am (bb BK1119 hb); clear hb hbox hg; have hnb20 := NB1125_1119.out; have hnc20 := NB1119_1125.out; have hcz21_0 : w19.cell? ⟨gb1125, 0, none⟩ = some (.int .u64 0) := bc BK1125 0; have hcz21_1 : w19.cell? ⟨gb1125, 1, none⟩ = some (.int .u64 0) := bc BK1125 1; have hcz21_2 : w19.cell? ⟨gb1125, 2, none⟩ = some (.bool false) := bc BK1125 2; have hfz21_0 := blk_frozen BK1125.out 0; have hfz21_1 := blk_frozen BK1125.out 1; have hfz21_2 := blk_frozen BK1125.out 2) | ((with_reducible refine gate_callee (f := 95) rfl ?_); refine goesL_ (some 22) rfl rfl Tryd.func95 (by kernel_rfl) rfl #[.agg #[.int .u64 t1120, .int .u64 t1121, .bool t1122], .bool t1123] rfl rf ?_; (with_reducible refine (tumblerref02_Signed.calls k t1120 t1121 t1122 t1123 t1126 t1127 false _ A4.out).mono ?_); rintro e w22 ⟨rfl, hb⟩; refine ⟨_, rfl, ?_⟩; replace BK1119 := am (blk_below (g := gb1119) (o := .cells #[.int .i64 0, .int .u64 0] 24 (0, 0)) kg hb); replace BK1125 := am (blk_below (g := gb1125) (o := .cells #[.int .u64 t1120, .int .u64 t1121, .bool t1122] 93 (0, 0)) (blk_put (blk_put (blk_put BK1125.out 0 _ rfl) 1 _ rfl) 2 _ rfl) hb); replace HB := am (below_step bz hb); (try clear hb); (try clear hb2); (try clear hk); (try clear hi)) | ((with_reducible refine gate_dst (N := 7) rfl ?_); refine box_event (by rfl) (N := 7) (by rfl) (cs := #[.int .i64 0, .int .u64 0]) (t := 24) (by go_simp <;> rfl) ?_; intro gb1129 hg w23 hbox hb; have BK1129 := am (hbox); have GW1129 := gw w hg; replace HB := am (below_step bz hb); have NB1119_1129 := nl BK1119 hg; have NB1129_1119 := nr BK1119 hg; replace BK1119 := am (bb BK1119 hb); have NB1125_1129 := nl BK1125 hg; have NB1129_1125 := nr BK1125 hg; replace BK1125 := am (bb BK1125 hb); clear hb hbox hg; have hnb24 := NB1129_1119.out; have hnc24 := NB1119_1129.out; have hnb25 := NB1129_1125.out; have hnc25 := NB1125_1129.out; have hcz26_0 : w23.cell? ⟨gb1129, 0, none⟩ = some (.int .i64 0) := bc BK1129 0; have hcz26_1 : w23.cell? ⟨gb1129, 1, none⟩ = some (.int .u64 0) := bc BK1129 1; have hfz26_0 := blk_frozen BK1129.out 0; have hfz26_1 := blk_frozen BK1129.out 1; have hcz27_0 : w23.cell? ⟨gb1119, 0, none⟩ = some (.int .i64 0) := bc BK1119 0; have hcz27_1 : w23.cell? ⟨gb1119, 1, none⟩ = some (.int .u64 0) := bc BK1119 1; have hfz27_0 := blk_frozen BK1119.out 0; have hfz27_1 := blk_frozen BK1119.out 1))
     refine bodyPost_ret (results_ct rfl _ _ gb1119 24 #[.int .i64 0, .int .u64 0] (0, 0) _ rfl (blk_put (blk_put (blk_far (blk_far BK1119.out NB1119_1129.out _) NB1119_1129.out _) 0 _ rfl) 1 _ rfl) Tryd.underlying24 rfl (by kernel_rfl)) rfl ?_
     exact ⟨rg, bz⟩
 · rw [if_neg c3] at H
   have c3b0 : (t1124 == 0) = false := beq_eq_false_iff_ne.mpr c3; have c3b1 : (t1124 != 0) = true := bne_iff_ne.mpr c3
   simp only [Option.some.injEq, Prod.mk.injEq] at H
   obtain ⟨rfl, rfl, rfl⟩ := H
   go_enter Tryd.func62, Tryd.ntmps62
   go_wp2_with (first | ((with_reducible refine gate_dst (N := 2) rfl ?_); refine box_event (by rfl) (N := 2) (by rfl) (cs := #[.int .i64 0, .int .u64 0]) (t := 24) (by go_simp <;> rfl) ?_; intro gb1119 hg w28 hbox hb; have BK1119 := am (hbox); have GW1119 := gw w hg; replace HB := am (below_step bz hb); clear hb hbox hg) | ((with_reducible refine gate_callee (f := 93) rfl ?_); refine goesL_ (some 11) rfl rfl Tryd.func93 (by kernel_rfl) rfl #[.string a0] rfl rf ?_; (with_reducible refine (tumblerref02_taken.calls k a0 t1120 t1121 t1122 t1123 t1124 _ A2.out).mono ?_); rintro e w29 ⟨rfl, hb⟩; refine ⟨_, rfl, ?_⟩; replace BK1119 := am (bb BK1119 hb); replace HB := am (below_step bz hb); (try clear hb); (try clear hb2); (try clear hk); (try clear hi)) | ((with_reducible refine gate_dst (N := 4) rfl ?_); refine box_event (by rfl) (N := 4) (by rfl) (cs := #[.int .u64 0, .int .u64 0, .bool false]) (t := 93) (by go_simp <;> rfl) ?_; intro gb1125 hg w30 hbox hb; have BK1125 := am (hbox); have GW1125 := gw w hg; replace HB := am (below_step bz hb); have NB1119_1125 := nl BK1119 hg; have NB1125_1119 := nr BK1119 hg; replace BK1119 := am (bb BK1119 hb); clear hb hbox hg; have hnb31 := NB1125_1119.out; have hnc31 := NB1119_1125.out; have hcz32_0 : w30.cell? ⟨gb1125, 0, none⟩ = some (.int .u64 0) := bc BK1125 0; have hcz32_1 : w30.cell? ⟨gb1125, 1, none⟩ = some (.int .u64 0) := bc BK1125 1; have hcz32_2 : w30.cell? ⟨gb1125, 2, none⟩ = some (.bool false) := bc BK1125 2; have hfz32_0 := blk_frozen BK1125.out 0; have hfz32_1 := blk_frozen BK1125.out 1; have hfz32_2 := blk_frozen BK1125.out 2; have hcz33_0 : w30.cell? ⟨gb1119, 0, none⟩ = some (.int .i64 0) := bc BK1119 0; have hcz33_1 : w30.cell? ⟨gb1119, 1, none⟩ = some (.int .u64 0) := bc BK1119 1; have hfz33_0 := blk_frozen BK1119.out 0; have hfz33_1 := blk_frozen BK1119.out 1))
   refine bodyPost_ret (results_ct rfl _ _ gb1119 24 #[.int .i64 0, .int .u64 0] (0, 0) _ rfl (blk_put (blk_put (blk_far (blk_far (blk_far BK1119.out NB1119_1125.out _) NB1119_1125.out _) NB1119_1125.out _) 0 _ rfl) 1 _ rfl) Tryd.underlying24 rfl (by kernel_rfl)) rfl ?_
   exact ⟨rg, bz⟩

end Go.Proofs.YtcfhmbhlibhlnaaDoor.P
