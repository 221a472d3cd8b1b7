-- Printed by this session's own pp.py (wip/tool) out of the translation.
import Derived.Test.YtcfhmbhlibhlnaaDoorPx0
import Derived.Test.YtcfhmbhlibhlnaaDoorPxf93
import Derived.Test.YtcfhmbhlibhlnaaDoorPxf94
namespace Go.Proofs.YtcfhmbhlibhlnaaDoor.P
open Go.RowKit Go.Proofs.YtcfhmbhlibhlnaaDoorW.PrintWords Go.Proofs.YtcfhmbhlibhlnaaDoorW.PrintLast Go.Proofs.YtcfhmbhlibhlnaaDoorW.PrintMore Go.Proofs.YtcfhmbhlibhlnaaDoor.Mine
attribute [local go_sem] ext71 ext79 eqA61 eqA62
attribute [local go_sem] max2_int min2_int max_two min_two max_three min_three max_four min_four   -- for this text's walks alone
set_option linter.unusedVariables false
set_option linter.unusedSimpArgs false

/-! ### tumblerref02_Parse: function 60 -/
def tumblerref02_Parse.f (k : Nat) (a0 : ByteArray) : Option (Int × Int) := (tumblerref02_taken.f k a0).bind fun bt1093 => (if bt1093.2.2.2.2 = 0 then (if bt1093.2.2.1 = true then (some (0, 22)) else (if bt1093.1 > 0 then (some (0, 22)) else (if bt1093.2.1 > 1000000000000000 then (some (0, 22)) else ((tumblerref02_Small.f k bt1093.1 bt1093.2.1 bt1093.2.2.1 bt1093.2.2.2.1).bind fun bt1099 => (some (bt1099.1, 0)))))) else (some (0, bt1093.2.2.2.2)))
theorem tumblerref02_Parse.mono : ∀ a0 k, LeO (tumblerref02_Parse.f k a0) (tumblerref02_Parse.f (k + 1) a0) := by
 intro a0 k
 unfold tumblerref02_Parse.f
 repeat' first
  | (with_reducible exact tumblerref02_Small.mono _ _ _ _ _)
  | (with_reducible exact tumblerref02_taken.mono _ _)
  | (with_reducible exact LeO.refl _)
  | (with_reducible exact LeO.none _)
  | (with_reducible refine LeO.ite ?_ ?_)
  | (with_reducible refine LeO.bind ?_ (fun _ => ?_))
  | exact tumblerref02_Small.mono _ _ _ _ _
  | exact tumblerref02_taken.mono _ _
  | exact LeO.none _
  | refine LeO.ite ?_ ?_
  | refine LeO.bind ?_ (fun _ => ?_)
set_option maxHeartbeats 8000000 in
set_option maxRecDepth 100000 in
theorem tumblerref02_Parse.calls (k : Nat) (a0 : ByteArray) (r1 : Int) (r2 : Int) (w : World) (h : tumblerref02_Parse.f k a0 = some (r1, r2)) :
 Calls Tryd.prog 60 #[.string a0] w fun e w' => e = .returned (.tuple #[.int .i64 r1, .int .i64 r2]) ∧ Below w.heap.size w w' := by
 have hu93 := Tryd.underlying93; have HB := am (Below.refl w.heap.size w); have H : ((tumblerref02_taken.f k a0).bind fun bt1093 => (if bt1093.2.2.2.2 = 0 then (if bt1093.2.2.1 = true then (some (0, 22)) else (if bt1093.1 > 0 then (some (0, 22)) else (if bt1093.2.1 > 1000000000000000 then (some (0, 22)) else ((tumblerref02_Small.f k bt1093.1 bt1093.2.1 bt1093.2.2.1 bt1093.2.2.2.1).bind fun bt1099 => (some (bt1099.1, 0)))))) else (some (0, bt1093.2.2.2.2)))) = some (r1, r2) := h; clear h
 replace H := Option.bind_eq_some_iff.mp H
 obtain ⟨⟨t1093, t1094, t1095, t1096, t1097⟩, A20, H⟩ := H
 replace H : (if t1097 = 0 then (if t1095 = true then (some (0, 22)) else (if t1093 > 0 then (some (0, 22)) else (if t1094 > 1000000000000000 then (some (0, 22)) else ((tumblerref02_Small.f k t1093 t1094 t1095 t1096).bind fun bt1099 => (some (bt1099.1, 0)))))) else (some (0, t1097))) = some (r1, r2) := H
 have A2 := Aside0.mk A20; clear A20
 by_cases c3 : t1097 = 0
 · rw [if_pos c3] at H
   have c3b0 : (t1097 == 0) = true := beq_iff_eq.mpr c3; have c3b1 : (t1097 != 0) = false := bne_eq_false_iff_eq.mpr c3; clear c3
   by_cases c4 : t1095 = true
   · subst c4
     have H1 : (some (0, 22)) = some (r1, r2) := by rw [if_pos rfl] at H; exact H
     clear H; have H := H1; clear H1
     simp only [Option.some.injEq, Prod.mk.injEq] at H
     obtain ⟨rfl, rfl⟩ := H
     go_enter Tryd.func60, Tryd.ntmps60
     go_wp2_with (first | ((with_reducible refine gate_callee (f := 93) rfl ?_); refine goesL_ (some 11) rfl rfl Tryd.func93 (by kernel_rfl) rfl #[.string a0] rfl rf ?_; (with_reducible refine (tumblerref02_taken.calls k a0 t1093 t1094 true t1096 t1097 _ A2.out).mono ?_); rintro e w5 ⟨rfl, hb⟩; refine ⟨_, rfl, ?_⟩; replace HB := am (below_step bz hb); (try clear hb); (try clear hb2); (try clear hk); (try clear hi)) | ((with_reducible refine gate_dst (N := 4) rfl ?_); refine box_event (by rfl) (N := 4) (by rfl) (cs := #[.int .u64 0, .int .u64 0, .bool false]) (t := 93) (by go_simp <;> rfl) ?_; intro gb1098 hg w6 hbox hb; have BK1098 := am (hbox); have GW1098 := gw w hg; replace HB := am (below_step bz hb); clear hb hbox hg; have hcz7_0 : w6.cell? ⟨gb1098, 0, none⟩ = some (.int .u64 0) := bc BK1098 0; have hcz7_1 : w6.cell? ⟨gb1098, 1, none⟩ = some (.int .u64 0) := bc BK1098 1; have hcz7_2 : w6.cell? ⟨gb1098, 2, none⟩ = some (.bool false) := bc BK1098 2; have hfz7_0 := blk_frozen BK1098.out 0; have hfz7_1 := blk_frozen BK1098.out 1; have hfz7_2 := blk_frozen BK1098.out 2))
     go_ret2
     exact ⟨rg, bz⟩
   · replace c4 := Bool.eq_false_iff.mpr c4
     subst c4
     have H1 : (if t1093 > 0 then (some (0, 22)) else (if t1094 > 1000000000000000 then (some (0, 22)) else ((tumblerref02_Small.f k t1093 t1094 false t1096).bind fun bt1099 => (some (bt1099.1, 0))))) = some (r1, r2) := by rw [if_neg (show ¬ (false = true) by decide)] at H; exact H
     clear H; have H := H1; clear H1
     by_cases c8 : t1093 > 0
     · rw [if_pos c8] at H
       have c8b0 : decide (0 < t1093) = true := decide_eq_true c8; clear c8
       simp only [Option.some.injEq, Prod.mk.injEq] at H
       obtain ⟨rfl, rfl⟩ := H
       go_enter Tryd.func60, Tryd.ntmps60
       go_wp2_with (first | ((with_reducible refine gate_callee (f := 93) rfl ?_); refine goesL_ (some 11) rfl rfl Tryd.func93 (by kernel_rfl) rfl #[.string a0] rfl rf ?_; (with_reducible refine (tumblerref02_taken.calls k a0 t1093 t1094 false t1096 t1097 _ A2.out).mono ?_); rintro e w9 ⟨rfl, hb⟩; refine ⟨_, rfl, ?_⟩; replace HB := am (below_step bz hb); (try clear hb); (try clear hb2); (try clear hk); (try clear hi)) | ((with_reducible refine gate_dst (N := 4) rfl ?_); refine box_event (by rfl) (N := 4) (by rfl) (cs := #[.int .u64 0, .int .u64 0, .bool false]) (t := 93) (by go_simp <;> rfl) ?_; intro gb1098 hg w10 hbox hb; have BK1098 := am (hbox); have GW1098 := gw w hg; replace HB := am (below_step bz hb); clear hb hbox hg; have hcz11_0 : w10.cell? ⟨gb1098, 0, none⟩ = some (.int .u64 0) := bc BK1098 0; have hcz11_1 : w10.cell? ⟨gb1098, 1, none⟩ = some (.int .u64 0) := bc BK1098 1; have hcz11_2 : w10.cell? ⟨gb1098, 2, none⟩ = some (.bool false) := bc BK1098 2; have hfz11_0 := blk_frozen BK1098.out 0; have hfz11_1 := blk_frozen BK1098.out 1; have hfz11_2 := blk_frozen BK1098.out 2))
       go_ret2
       exact ⟨rg, bz⟩
     · rw [if_neg c8] at H
       have c8b0 : decide (0 < t1093) = false := decide_eq_false c8; clear c8
       by_cases c12 : t1094 > 1000000000000000
       · rw [if_pos c12] at H
         have c12b0 : decide (1000000000000000 < t1094) = true := decide_eq_true c12; clear c12
         simp only [Option.some.injEq, Prod.mk.injEq] at H
         obtain ⟨rfl, rfl⟩ := H
         go_enter Tryd.func60, Tryd.ntmps60
         go_wp2_with (first | ((with_reducible refine gate_callee (f := 93) rfl ?_); refine goesL_ (some 11) rfl rfl Tryd.func93 (by kernel_rfl) rfl #[.string a0] rfl rf ?_; (with_reducible refine (tumblerref02_taken.calls k a0 t1093 t1094 false t1096 t1097 _ A2.out).mono ?_); rintro e w13 ⟨rfl, hb⟩; refine ⟨_, rfl, ?_⟩; replace HB := am (below_step bz hb); (try clear hb); (try clear hb2); (try clear hk); (try clear hi)) | ((with_reducible refine gate_dst (N := 4) rfl ?_); refine box_event (by rfl) (N := 4) (by rfl) (cs := #[.int .u64 0, .int .u64 0, .bool false]) (t := 93) (by go_simp <;> rfl) ?_; intro gb1098 hg w14 hbox hb; have BK1098 := am (hbox); have GW1098 := gw w hg; replace HB := am (below_step bz hb); clear hb hbox hg; have hcz15_0 : w14.cell? ⟨gb1098, 0, none⟩ = some (.int .u64 0) := bc BK1098 0; have hcz15_1 : w14.cell? ⟨gb1098, 1, none⟩ = some (.int .u64 0) := bc BK1098 1; have hcz15_2 : w14.cell? ⟨gb1098, 2, none⟩ = some (.bool false) := bc BK1098 2; have hfz15_0 := blk_frozen BK1098.out 0; have hfz15_1 := blk_frozen BK1098.out 1; have hfz15_2 := blk_frozen BK1098.out 2))
         go_ret2
         exact ⟨rg, bz⟩
       · rw [if_neg c12] at H
         have c12b0 : decide (1000000000000000 < t1094) = false := decide_eq_false c12; clear c12
         replace H := Option.bind_eq_some_iff.mp H
         obtain ⟨⟨t1099, t1100⟩, A160, H⟩ := H
         replace H : (some (t1099, 0)) = some (r1, r2) := H
         have A16 := Aside0.mk A160; clear A160
         simp only [Option.some.injEq, Prod.mk.injEq] at H
         obtain ⟨rfl, rfl⟩ := H
         go_enter Tryd.func60, Tryd.ntmps60
         go_wp2_with (first | ((with_reducible refine gate_callee (f := 93) rfl ?_); refine goesL_ (some 11) rfl rfl Tryd.func93 (by kernel_rfl) rfl #[.string a0] rfl rf ?_; (with_reducible refine (tumblerref02_taken.calls k a0 t1093 t1094 false t1096 t1097 _ A2.out).mono ?_); rintro e w17 ⟨rfl, hb⟩; refine ⟨_, rfl, ?_⟩; replace HB := am (below_step bz hb); (try clear hb); (try clear hb2); (try clear hk); (try clear hi)) | ((with_reducible refine gate_dst (N := 4) rfl ?_); refine box_event (by rfl) (N := 4) (by rfl) (cs := #[.int .u64 0, .int .u64 0, .bool false]) (t := 93) (by go_simp <;> rfl) ?_; intro gb1098 hg w18 hbox hb; have BK1098 := am (hbox); have GW1098 := gw w hg; replace HB := am (below_step bz hb); clear hb hbox hg; have hcz19_0 : w18.cell? ⟨gb1098, 0, none⟩ = some (.int .u64 0) := bc BK1098 0; have hcz19_1 : w18.cell? ⟨gb1098, 1, none⟩ = some (.int .u64 0) := bc BK1098 1; have hcz19_2 : w18.cell? ⟨gb1098, 2, none⟩ = some (.bool false) := bc BK1098 2; have hfz19_0 := blk_frozen BK1098.out 0; have hfz19_1 := blk_frozen BK1098.out 1; have hfz19_2 := blk_frozen BK1098.out 2) | ((with_reducible refine gate_callee (f := 94) rfl ?_); refine goesL_ (some 33) rfl rfl Tryd.func94 (by kernel_rfl) rfl #[.agg #[.int .u64 t1093, .int .u64 t1094, .bool false], .bool t1096] rfl rf ?_; (with_reducible refine (tumblerref02_Small.calls k t1093 t1094 false t1096 t1099 t1100 _ A16.out).mono ?_); rintro e w20 ⟨rfl, hb⟩; refine ⟨_, rfl, ?_⟩; replace BK1098 := am (blk_below (g := gb1098) (o := .cells #[.int .u64 t1093, .int .u64 t1094, .bool false] 93 (0, 0)) (blk_put (blk_put (blk_put BK1098.out 0 _ rfl) 1 _ rfl) 2 _ rfl) hb); replace HB := am (below_step bz hb); (try clear hb); (try clear hb2); (try clear hk); (try clear hi)))
         go_ret2
         exact ⟨rg, bz⟩
 · rw [if_neg c3] at H
   have c3b0 : (t1097 == 0) = false := beq_eq_false_iff_ne.mpr c3; have c3b1 : (t1097 != 0) = true := bne_iff_ne.mpr c3
   simp only [Option.some.injEq, Prod.mk.injEq] at H
   obtain ⟨rfl, rfl⟩ := H
   go_enter Tryd.func60, Tryd.ntmps60
   go_wp2_with (first | ((with_reducible refine gate_callee (f := 93) rfl ?_); refine goesL_ (some 11) rfl rfl Tryd.func93 (by kernel_rfl) rfl #[.string a0] rfl rf ?_; (with_reducible refine (tumblerref02_taken.calls k a0 t1093 t1094 t1095 t1096 t1097 _ A2.out).mono ?_); rintro e w21 ⟨rfl, hb⟩; refine ⟨_, rfl, ?_⟩; replace HB := am (below_step bz hb); (try clear hb); (try clear hb2); (try clear hk); (try clear hi)) | ((with_reducible refine gate_dst (N := 4) rfl ?_); refine box_event (by rfl) (N := 4) (by rfl) (cs := #[.int .u64 0, .int .u64 0, .bool false]) (t := 93) (by go_simp <;> rfl) ?_; intro gb1098 hg w22 hbox hb; have BK1098 := am (hbox); have GW1098 := gw w hg; replace HB := am (below_step bz hb); clear hb hbox hg; have hcz23_0 : w22.cell? ⟨gb1098, 0, none⟩ = some (.int .u64 0) := bc BK1098 0; have hcz23_1 : w22.cell? ⟨gb1098, 1, none⟩ = some (.int .u64 0) := bc BK1098 1; have hcz23_2 : w22.cell? ⟨gb1098, 2, none⟩ = some (.bool false) := bc BK1098 2; have hfz23_0 := blk_frozen BK1098.out 0; have hfz23_1 := blk_frozen BK1098.out 1; have hfz23_2 := blk_frozen BK1098.out 2))
   go_ret2
   exact ⟨rg, bz⟩

end Go.Proofs.YtcfhmbhlibhlnaaDoor.P
