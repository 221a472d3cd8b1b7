-- Printed by this session's own pp.py (wip/tool) out of the translation.
import Derived.Test.YtcfhmbhlibhlnaaDoorPx0
import Derived.Test.YtcfhmbhlibhlnaaDoorPxg0
import Derived.Test.YtcfhmbhlibhlnaaDoorPxf56
import Derived.Test.YtcfhmbhlibhlnaaDoorPxf58
import Derived.Test.YtcfhmbhlibhlnaaDoorPxf59
namespace Go.Proofs.YtcfhmbhlibhlnaaDoor.P
open Go.RowKit Go.Proofs.YtcfhmbhlibhlnaaDoorW.PrintWords Go.Proofs.YtcfhmbhlibhlnaaDoorW.PrintLast Go.Proofs.YtcfhmbhlibhlnaaDoorW.PrintMore Go.Proofs.YtcfhmbhlibhlnaaDoor.Mine
attribute [local go_sem] ext71 ext79 eqA61 eqA62
attribute [local go_sem] max2_int min2_int max_two min_two max_three min_three max_four min_four   -- for this text's walks alone
set_option linter.unusedVariables false
set_option linter.unusedSimpArgs false

attribute [local go_sem high] eqA24
/-! ### tumblerlaw02_awake: function 61 -/
def tumblerlaw02_awake.f (k : Nat)  : Option (Bool) := (micro_Parse.f k (⟨#[49, 46, 53]⟩ : ByteArray)).bind fun bt1101 => ((micro_Read.f k (⟨#[48, 46, 48, 48, 48, 48, 48, 49]⟩ : ByteArray)).bind fun bt1103 => (if bt1101.1 = 1500000 then (if bt1101.2 = 0 then (if (bt1103.1 == 0 && (bt1103.2.1 == 1)) = true then (if bt1103.2.2 = 0 then ((micro_Print.f k (-1)).bind fun t1107 => (some (t1107.toList == ([45, 48, 46, 48, 48, 48, 48, 48, 49] : List UInt8)))) else (some false)) else (some false)) else (some false)) else (some false)))
theorem tumblerlaw02_awake.mono : ∀ k, LeO (tumblerlaw02_awake.f k ) (tumblerlaw02_awake.f (k + 1) ) := by
 intro  k
 unfold tumblerlaw02_awake.f
 repeat' first
  | (with_reducible exact micro_Parse.mono _ _)
  | (with_reducible exact micro_Print.mono _ _)
  | (with_reducible exact micro_Read.mono _ _)
  | (with_reducible exact LeO.refl _)
  | (with_reducible exact LeO.none _)
  | (with_reducible refine LeO.ite ?_ ?_)
  | (with_reducible refine LeO.bind ?_ (fun _ => ?_))
  | exact micro_Parse.mono _ _
  | exact micro_Print.mono _ _
  | exact micro_Read.mono _ _
  | exact LeO.none _
  | refine LeO.ite ?_ ?_
  | refine LeO.bind ?_ (fun _ => ?_)
set_option maxHeartbeats 8000000 in
set_option maxRecDepth 100000 in
theorem tumblerlaw02_awake.calls (k : Nat)  (r : Bool) (w : World) (hT : Aside0 (WF w)) (h : tumblerlaw02_awake.f k  = some r) :
 Calls Tryd.prog 61 #[] w fun e w' => e = .returned (.bool r) ∧ Below w.heap.size w w' := by
 have hu24 := Tryd.underlying24; have HB := am (Below.refl w.heap.size w); have H : ((micro_Parse.f k (⟨#[49, 46, 53]⟩ : ByteArray)).bind fun bt1101 => ((micro_Read.f k (⟨#[48, 46, 48, 48, 48, 48, 48, 49]⟩ : ByteArray)).bind fun bt1103 => (if bt1101.1 = 1500000 then (if bt1101.2 = 0 then (if (bt1103.1 == 0 && (bt1103.2.1 == 1)) = true then (if bt1103.2.2 = 0 then ((micro_Print.f k (-1)).bind fun t1107 => (some (t1107.toList == ([45, 48, 46, 48, 48, 48, 48, 48, 49] : List UInt8)))) else (some false)) else (some false)) else (some false)) else (some false)))) = some r := h; clear h
 replace H := Option.bind_eq_some_iff.mp H
 obtain ⟨⟨t1101, t1102⟩, A10, H⟩ := H
 replace H : ((micro_Read.f k (⟨#[48, 46, 48, 48, 48, 48, 48, 49]⟩ : ByteArray)).bind fun bt1103 => (if t1101 = 1500000 then (if t1102 = 0 then (if (bt1103.1 == 0 && (bt1103.2.1 == 1)) = true then (if bt1103.2.2 = 0 then ((micro_Print.f k (-1)).bind fun t1107 => (some (t1107.toList == ([45, 48, 46, 48, 48, 48, 48, 48, 49] : List UInt8)))) else (some false)) else (some false)) else (some false)) else (some false))) = some r := H
 have A1 := Aside0.mk A10; clear A10
 replace H := Option.bind_eq_some_iff.mp H
 obtain ⟨⟨t1103, t1104, t1105⟩, A20, H⟩ := H
 replace H : (if t1101 = 1500000 then (if t1102 = 0 then (if (t1103 == 0 && (t1104 == 1)) = true then (if t1105 = 0 then ((micro_Print.f k (-1)).bind fun t1107 => (some (t1107.toList == ([45, 48, 46, 48, 48, 48, 48, 48, 49] : List UInt8)))) else (some false)) else (some false)) else (some false)) else (some false)) = some r := H
 have A2 := Aside0.mk A20; clear A20
 by_cases c3 : t1101 = 1500000
 · rw [if_pos c3] at H
   have c3b0 : (t1101 == 1500000) = true := beq_iff_eq.mpr c3; have c3b1 : (t1101 != 1500000) = false := bne_eq_false_iff_eq.mpr c3; clear c3
   by_cases c4 : t1102 = 0
   · rw [if_pos c4] at H
     have c4b0 : (t1102 == 0) = true := beq_iff_eq.mpr c4; have c4b1 : (t1102 != 0) = false := bne_eq_false_iff_eq.mpr c4; clear c4
     by_cases c5 : (t1103 == 0 && (t1104 == 1)) = true
     · rw [if_pos c5] at H
       have c5b0 : (t1103 == 0 && (t1104 == 1)) = true := c5; (try (have c5b1 : decide (t1103 = 0 && (t1104 == 1)) = true := by simpa using c5)); (try (have c5b2 : (t1103 == 0 && (t1104 == 1)) = true := by simpa using c5)); clear c5
       by_cases c6 : t1105 = 0
       · rw [if_pos c6] at H
         have c6b0 : (t1105 == 0) = true := beq_iff_eq.mpr c6; have c6b1 : (t1105 != 0) = false := bne_eq_false_iff_eq.mpr c6; clear c6
         replace H := Option.bind_eq_some_iff.mp H
         obtain ⟨t1107, A70, H⟩ := H
         replace H : (some (t1107.toList == ([45, 48, 46, 48, 48, 48, 48, 48, 49] : List UInt8))) = some r := H
         have A7 := Aside0.mk A70; clear A70
         obtain rfl := Option.some.inj H
         go_enter Tryd.func61, Tryd.ntmps61
         go_wp2_with (first | ((with_reducible refine gate_callee (f := 59) rfl ?_); refine goesL_ (some 6) rfl rfl Tryd.func59 (by kernel_rfl) rfl #[.string (⟨#[49, 46, 53]⟩ : ByteArray)] rfl rf ?_; (with_reducible refine (micro_Parse.calls k (⟨#[49, 46, 53]⟩ : ByteArray) t1101 t1102 _ A1.out).mono ?_); rintro e w8 ⟨rfl, hb⟩; refine ⟨_, rfl, ?_⟩; replace HB := am (below_step bz hb); (try clear hb); (try clear hb2); (try clear hk); (try clear hi)) | ((with_reducible refine gate_callee (f := 58) rfl ?_); refine goesL_ (some 10) rfl rfl Tryd.func58 (by kernel_rfl) rfl #[.string (⟨#[48, 46, 48, 48, 48, 48, 48, 49]⟩ : ByteArray)] rfl rf ?_; (with_reducible refine (micro_Read.calls k (⟨#[48, 46, 48, 48, 48, 48, 48, 49]⟩ : ByteArray) t1103 t1104 t1105 _ A2.out).mono ?_); rintro e w9 ⟨rfl, hb⟩; refine ⟨_, rfl, ?_⟩; replace HB := am (below_step bz hb); (try clear hb); (try clear hb2); (try clear hk); (try clear hi)) | ((with_reducible refine gate_dst (N := 3) rfl ?_); refine box_event (by rfl) (N := 3) (by rfl) (cs := #[.int .i64 0, .int .u64 0]) (t := 24) (by go_simp <;> rfl) ?_; intro gb1106 hg w10 hbox hb; have BK1106 := am (hbox); have GW1106 := gw w hg; replace HB := am (below_step bz hb); clear hb hbox hg; have hcz11_0 : w10.cell? ⟨gb1106, 0, none⟩ = some (.int .i64 0) := bc BK1106 0; have hcz11_1 : w10.cell? ⟨gb1106, 1, none⟩ = some (.int .u64 0) := bc BK1106 1; have hfz11_0 := blk_frozen BK1106.out 0; have hfz11_1 := blk_frozen BK1106.out 1) | (go_at_call 56; (with_reducible refine (micro_Print.calls k (-1) t1107 _ (tN hT) A7.out).mono ?_); rintro e w12 ⟨rfl, hb⟩; replace BK1106 := am (blk_below (g := gb1106) (o := .cells #[.int .i64 t1103, .int .u64 t1104] 24 (0, 0)) (blk_put (blk_put BK1106.out 0 _ rfl) 1 _ rfl) hb); replace HB := am (below_step bz hb); (try clear hb); (try clear hb2); (try clear hk); (try clear hi)))
         go_ret
         exact ⟨rg, bz⟩
       · rw [if_neg c6] at H
         have c6b0 : (t1105 == 0) = false := beq_eq_false_iff_ne.mpr c6; have c6b1 : (t1105 != 0) = true := bne_iff_ne.mpr c6
         obtain rfl := Option.some.inj H
         go_enter Tryd.func61, Tryd.ntmps61
         go_wp2_with (first | ((with_reducible refine gate_callee (f := 59) rfl ?_); refine goesL_ (some 6) rfl rfl Tryd.func59 (by kernel_rfl) rfl #[.string (⟨#[49, 46, 53]⟩ : ByteArray)] rfl rf ?_; (with_reducible refine (micro_Parse.calls k (⟨#[49, 46, 53]⟩ : ByteArray) t1101 t1102 _ A1.out).mono ?_); rintro e w13 ⟨rfl, hb⟩; refine ⟨_, rfl, ?_⟩; replace HB := am (below_step bz hb); (try clear hb); (try clear hb2); (try clear hk); (try clear hi)) | ((with_reducible refine gate_callee (f := 58) rfl ?_); refine goesL_ (some 10) rfl rfl Tryd.func58 (by kernel_rfl) rfl #[.string (⟨#[48, 46, 48, 48, 48, 48, 48, 49]⟩ : ByteArray)] rfl rf ?_; (with_reducible refine (micro_Read.calls k (⟨#[48, 46, 48, 48, 48, 48, 48, 49]⟩ : ByteArray) t1103 t1104 t1105 _ A2.out).mono ?_); rintro e w14 ⟨rfl, hb⟩; refine ⟨_, rfl, ?_⟩; replace HB := am (below_step bz hb); (try clear hb); (try clear hb2); (try clear hk); (try clear hi)) | ((with_reducible refine gate_dst (N := 3) rfl ?_); refine box_event (by rfl) (N := 3) (by rfl) (cs := #[.int .i64 0, .int .u64 0]) (t := 24) (by go_simp <;> rfl) ?_; intro gb1106 hg w15 hbox hb; have BK1106 := am (hbox); have GW1106 := gw w hg; replace HB := am (below_step bz hb); clear hb hbox hg; have hcz16_0 : w15.cell? ⟨gb1106, 0, none⟩ = some (.int .i64 0) := bc BK1106 0; have hcz16_1 : w15.cell? ⟨gb1106, 1, none⟩ = some (.int .u64 0) := bc BK1106 1; have hfz16_0 := blk_frozen BK1106.out 0; have hfz16_1 := blk_frozen BK1106.out 1))
         go_ret
         exact ⟨rg, bz⟩
     · rw [if_neg c5] at H
       have c5b0 : (t1103 == 0 && (t1104 == 1)) = false := by simpa using c5
       (try (have c5b1 : decide (t1103 = 0 && (t1104 == 1)) = false := by simpa using c5)); (try (have c5b2 : (t1103 == 0 && (t1104 == 1)) = false := by simpa using c5)); (try (have c5b3 : ¬ (t1103 = 0 && (t1104 == 1)) := by simpa using c5)); clear c5
       obtain rfl := Option.some.inj H
       go_enter Tryd.func61, Tryd.ntmps61
       go_wp2_with (first | ((with_reducible refine gate_callee (f := 59) rfl ?_); refine goesL_ (some 6) rfl rfl Tryd.func59 (by kernel_rfl) rfl #[.string (⟨#[49, 46, 53]⟩ : ByteArray)] rfl rf ?_; (with_reducible refine (micro_Parse.calls k (⟨#[49, 46, 53]⟩ : ByteArray) t1101 t1102 _ A1.out).mono ?_); rintro e w17 ⟨rfl, hb⟩; refine ⟨_, rfl, ?_⟩; replace HB := am (below_step bz hb); (try clear hb); (try clear hb2); (try clear hk); (try clear hi)) | ((with_reducible refine gate_callee (f := 58) rfl ?_); refine goesL_ (some 10) rfl rfl Tryd.func58 (by kernel_rfl) rfl #[.string (⟨#[48, 46, 48, 48, 48, 48, 48, 49]⟩ : ByteArray)] rfl rf ?_; (with_reducible refine (micro_Read.calls k (⟨#[48, 46, 48, 48, 48, 48, 48, 49]⟩ : ByteArray) t1103 t1104 t1105 _ A2.out).mono ?_); rintro e w18 ⟨rfl, hb⟩; refine ⟨_, rfl, ?_⟩; replace HB := am (below_step bz hb); (try clear hb); (try clear hb2); (try clear hk); (try clear hi)) | ((with_reducible refine gate_dst (N := 3) rfl ?_); refine box_event (by rfl) (N := 3) (by rfl) (cs := #[.int .i64 0, .int .u64 0]) (t := 24) (by go_simp <;> rfl) ?_; intro gb1106 hg w19 hbox hb; have BK1106 := am (hbox); have GW1106 := gw w hg; replace HB := am (below_step bz hb); clear hb hbox hg; have hcz20_0 : w19.cell? ⟨gb1106, 0, none⟩ = some (.int .i64 0) := bc BK1106 0; have hcz20_1 : w19.cell? ⟨gb1106, 1, none⟩ = some (.int .u64 0) := bc BK1106 1; have hfz20_0 := blk_frozen BK1106.out 0; have hfz20_1 := blk_frozen BK1106.out 1))
       go_ret
       exact ⟨rg, bz⟩
   · rw [if_neg c4] at H
     have c4b0 : (t1102 == 0) = false := beq_eq_false_iff_ne.mpr c4; have c4b1 : (t1102 != 0) = true := bne_iff_ne.mpr c4
     obtain rfl := Option.some.inj H
     go_enter Tryd.func61, Tryd.ntmps61
     go_wp2_with (first | ((with_reducible refine gate_callee (f := 59) rfl ?_); refine goesL_ (some 6) rfl rfl Tryd.func59 (by kernel_rfl) rfl #[.string (⟨#[49, 46, 53]⟩ : ByteArray)] rfl rf ?_; (with_reducible refine (micro_Parse.calls k (⟨#[49, 46, 53]⟩ : ByteArray) t1101 t1102 _ A1.out).mono ?_); rintro e w21 ⟨rfl, hb⟩; refine ⟨_, rfl, ?_⟩; replace HB := am (below_step bz hb); (try clear hb); (try clear hb2); (try clear hk); (try clear hi)) | ((with_reducible refine gate_callee (f := 58) rfl ?_); refine goesL_ (some 10) rfl rfl Tryd.func58 (by kernel_rfl) rfl #[.string (⟨#[48, 46, 48, 48, 48, 48, 48, 49]⟩ : ByteArray)] rfl rf ?_; (with_reducible refine (micro_Read.calls k (⟨#[48, 46, 48, 48, 48, 48, 48, 49]⟩ : ByteArray) t1103 t1104 t1105 _ A2.out).mono ?_); rintro e w22 ⟨rfl, hb⟩; refine ⟨_, rfl, ?_⟩; replace HB := am (below_step bz hb); (try clear hb); (try clear hb2); (try clear hk); (try clear hi)) | ((with_reducible refine gate_dst (N := 3) rfl ?_); refine box_event (by rfl) (N := 3) (by rfl) (cs := #[.int .i64 0, .int .u64 0]) (t := 24) (by go_simp <;> rfl) ?_; intro gb1106 hg w23 hbox hb; have BK1106 := am (hbox); have GW1106 := gw w hg; replace HB := am (below_step bz hb); clear hb hbox hg; have hcz24_0 : w23.cell? ⟨gb1106, 0, none⟩ = some (.int .i64 0) := bc BK1106 0; have hcz24_1 : w23.cell? ⟨gb1106, 1, none⟩ = some (.int .u64 0) := bc BK1106 1; have hfz24_0 := blk_frozen BK1106.out 0; have hfz24_1 := blk_frozen BK1106.out 1))
     go_ret
     exact ⟨rg, bz⟩
 · rw [if_neg c3] at H
   have c3b0 : (t1101 == 1500000) = false := beq_eq_false_iff_ne.mpr c3; have c3b1 : (t1101 != 1500000) = true := bne_iff_ne.mpr c3
   obtain rfl := Option.some.inj H
   go_enter Tryd.func61, Tryd.ntmps61
   go_wp2_with (first | ((with_reducible refine gate_callee (f := 59) rfl ?_); refine goesL_ (some 6) rfl rfl Tryd.func59 (by kernel_rfl) rfl #[.string (⟨#[49, 46, 53]⟩ : ByteArray)] rfl rf ?_; (with_reducible refine (micro_Parse.calls k (⟨#[49, 46, 53]⟩ : ByteArray) t1101 t1102 _ A1.out).mono ?_); rintro e w25 ⟨rfl, hb⟩; refine ⟨_, rfl, ?_⟩; replace HB := am (below_step bz hb); (try clear hb); (try clear hb2); (try clear hk); (try clear hi)) | ((with_reducible refine gate_callee (f := 58) rfl ?_); refine goesL_ (some 10) rfl rfl Tryd.func58 (by kernel_rfl) rfl #[.string (⟨#[48, 46, 48, 48, 48, 48, 48, 49]⟩ : ByteArray)] rfl rf ?_; (with_reducible refine (micro_Read.calls k (⟨#[48, 46, 48, 48, 48, 48, 48, 49]⟩ : ByteArray) t1103 t1104 t1105 _ A2.out).mono ?_); rintro e w26 ⟨rfl, hb⟩; refine ⟨_, rfl, ?_⟩; replace HB := am (below_step bz hb); (try clear hb); (try clear hb2); (try clear hk); (try clear hi)) | ((with_reducible refine gate_dst (N := 3) rfl ?_); refine box_event (by rfl) (N := 3) (by rfl) (cs := #[.int .i64 0, .int .u64 0]) (t := 24) (by go_simp <;> rfl) ?_; intro gb1106 hg w27 hbox hb; have BK1106 := am (hbox); have GW1106 := gw w hg; replace HB := am (below_step bz hb); clear hb hbox hg; have hcz28_0 : w27.cell? ⟨gb1106, 0, none⟩ = some (.int .i64 0) := bc BK1106 0; have hcz28_1 : w27.cell? ⟨gb1106, 1, none⟩ = some (.int .u64 0) := bc BK1106 1; have hfz28_0 := blk_frozen BK1106.out 0; have hfz28_1 := blk_frozen BK1106.out 1))
   go_ret
   exact ⟨rg, bz⟩

end Go.Proofs.YtcfhmbhlibhlnaaDoor.P
