-- Printed by this session's own pp.py (wip/tool) out of the translation.
import Derived.Test.YtcfhmbhlibhlnaaDoorPx0
import Derived.Test.YtcfhmbhlibhlnaaDoorPxf54
import Derived.Test.YtcfhmbhlibhlnaaDoorPxf56
import Derived.Test.YtcfhmbhlibhlnaaDoorPxf58
import Derived.Test.YtcfhmbhlibhlnaaDoorPxf59
import Derived.Test.YtcfhmbhlibhlnaaDoorPxf61
import Derived.Test.YtcfhmbhlibhlnaaDoorPxf63
namespace Go.Proofs.YtcfhmbhlibhlnaaDoor.P
open Go.RowKit Go.Proofs.YtcfhmbhlibhlnaaDoorW.PrintWords Go.Proofs.YtcfhmbhlibhlnaaDoorW.PrintLast Go.Proofs.YtcfhmbhlibhlnaaDoorW.PrintMore Go.Proofs.YtcfhmbhlibhlnaaDoor.Mine
attribute [local go_sem] ext71 ext79 eqA61 eqA62
attribute [local go_sem] max2_int min2_int max_two min_two max_three min_three max_four min_four   -- for this text's walks alone
set_option linter.unusedVariables false
set_option linter.unusedSimpArgs false

/-! ### tumblerlaw02_MicroSame: function 24 -/
def tumblerlaw02_MicroSame.f (k : Nat) (a0 : ByteArray) : Option (Bool) := (tumblerlaw02_awake.f k).bind fun t1148 => (if t1148 = true then ((micro_Parse.f k a0).bind fun bt1149 => ((micro_Read.f k a0).bind fun bt1151 => (if bt1149.2 = 0 then ((micro_Fits.f bt1151.1 bt1151.2.1).bind fun bt1155 => (if bt1151.2.2 = 0 then (if bt1155.2 = true then (if bt1155.1 = bt1149.1 then ((micro_Show.f k bt1151.1 bt1151.2.1).bind fun t1157 => ((micro_Print.f k bt1149.1).bind fun t1158 => (some (t1157.toList == t1158.toList)))) else (some false)) else (some false)) else (some false))) else (if bt1149.2 = 22 then (if bt1151.2.2 = 20 then (some (bt1149.2 == bt1151.2.2)) else (if bt1151.2.2 = 21 then (some (bt1149.2 == bt1151.2.2)) else (some true))) else (some (bt1149.2 == bt1151.2.2)))))) else (some false))
theorem tumblerlaw02_MicroSame.mono : ∀ a0 k, LeO (tumblerlaw02_MicroSame.f k a0) (tumblerlaw02_MicroSame.f (k + 1) a0) := by
 intro a0 k
 unfold tumblerlaw02_MicroSame.f
 repeat' first
  | (with_reducible exact micro_Parse.mono _ _)
  | (with_reducible exact micro_Print.mono _ _)
  | (with_reducible exact micro_Read.mono _ _)
  | (with_reducible exact micro_Show.mono _ _ _)
  | (with_reducible exact tumblerlaw02_awake.mono _)
  | (with_reducible exact LeO.refl _)
  | (with_reducible exact LeO.none _)
  | (with_reducible refine LeO.ite ?_ ?_)
  | (with_reducible refine LeO.bind ?_ (fun _ => ?_))
  | exact micro_Parse.mono _ _
  | exact micro_Print.mono _ _
  | exact micro_Read.mono _ _
  | exact micro_Show.mono _ _ _
  | exact tumblerlaw02_awake.mono _
  | exact LeO.none _
  | refine LeO.ite ?_ ?_
  | refine LeO.bind ?_ (fun _ => ?_)
set_option maxHeartbeats 8000000 in
set_option maxRecDepth 100000 in
theorem tumblerlaw02_MicroSame.calls (k : Nat) (a0 : ByteArray) (r : Bool) (w : World) (hT : Aside0 (WF w)) (hr_ : Aside0 (r = true)) (h : tumblerlaw02_MicroSame.f k a0 = some r) :
 Calls Tryd.prog 24 #[.string a0] w fun e w' => e = .returned (.bool r) ∧ Below w.heap.size w w' := by
 have hu24 := Tryd.underlying24; have HB := am (Below.refl w.heap.size w); have H : ((tumblerlaw02_awake.f k).bind fun t1148 => (if t1148 = true then ((micro_Parse.f k a0).bind fun bt1149 => ((micro_Read.f k a0).bind fun bt1151 => (if bt1149.2 = 0 then ((micro_Fits.f bt1151.1 bt1151.2.1).bind fun bt1155 => (if bt1151.2.2 = 0 then (if bt1155.2 = true then (if bt1155.1 = bt1149.1 then ((micro_Show.f k bt1151.1 bt1151.2.1).bind fun t1157 => ((micro_Print.f k bt1149.1).bind fun t1158 => (some (t1157.toList == t1158.toList)))) else (some false)) else (some false)) else (some false))) else (if bt1149.2 = 22 then (if bt1151.2.2 = 20 then (some (bt1149.2 == bt1151.2.2)) else (if bt1151.2.2 = 21 then (some (bt1149.2 == bt1151.2.2)) else (some true))) else (some (bt1149.2 == bt1151.2.2)))))) else (some false))) = some r := h; clear h
 replace H := Option.bind_eq_some_iff.mp H
 obtain ⟨t1148, A20, H⟩ := H
 replace H : (if t1148 = true then ((micro_Parse.f k a0).bind fun bt1149 => ((micro_Read.f k a0).bind fun bt1151 => (if bt1149.2 = 0 then ((micro_Fits.f bt1151.1 bt1151.2.1).bind fun bt1155 => (if bt1151.2.2 = 0 then (if bt1155.2 = true then (if bt1155.1 = bt1149.1 then ((micro_Show.f k bt1151.1 bt1151.2.1).bind fun t1157 => ((micro_Print.f k bt1149.1).bind fun t1158 => (some (t1157.toList == t1158.toList)))) else (some false)) else (some false)) else (some false))) else (if bt1149.2 = 22 then (if bt1151.2.2 = 20 then (some (bt1149.2 == bt1151.2.2)) else (if bt1151.2.2 = 21 then (some (bt1149.2 == bt1151.2.2)) else (some true))) else (some (bt1149.2 == bt1151.2.2)))))) else (some false)) = some r := H
 have A2 := Aside0.mk A20; clear A20
 by_cases c3 : t1148 = true
 · subst c3
   have H1 : ((micro_Parse.f k a0).bind fun bt1149 => ((micro_Read.f k a0).bind fun bt1151 => (if bt1149.2 = 0 then ((micro_Fits.f bt1151.1 bt1151.2.1).bind fun bt1155 => (if bt1151.2.2 = 0 then (if bt1155.2 = true then (if bt1155.1 = bt1149.1 then ((micro_Show.f k bt1151.1 bt1151.2.1).bind fun t1157 => ((micro_Print.f k bt1149.1).bind fun t1158 => (some (t1157.toList == t1158.toList)))) else (some false)) else (some false)) else (some false))) else (if bt1149.2 = 22 then (if bt1151.2.2 = 20 then (some (bt1149.2 == bt1151.2.2)) else (if bt1151.2.2 = 21 then (some (bt1149.2 == bt1151.2.2)) else (some true))) else (some (bt1149.2 == bt1151.2.2)))))) = some r := by rw [if_pos rfl] at H; exact H
   clear H; have H := H1; clear H1
   replace H := Option.bind_eq_some_iff.mp H
   obtain ⟨⟨t1149, t1150⟩, A40, H⟩ := H
   replace H : ((micro_Read.f k a0).bind fun bt1151 => (if t1150 = 0 then ((micro_Fits.f bt1151.1 bt1151.2.1).bind fun bt1155 => (if bt1151.2.2 = 0 then (if bt1155.2 = true then (if bt1155.1 = t1149 then ((micro_Show.f k bt1151.1 bt1151.2.1).bind fun t1157 => ((micro_Print.f k t1149).bind fun t1158 => (some (t1157.toList == t1158.toList)))) else (some false)) else (some false)) else (some false))) else (if t1150 = 22 then (if bt1151.2.2 = 20 then (some (t1150 == bt1151.2.2)) else (if bt1151.2.2 = 21 then (some (t1150 == bt1151.2.2)) else (some true))) else (some (t1150 == bt1151.2.2))))) = some r := H
   have A4 := Aside0.mk A40; clear A40
   replace H := Option.bind_eq_some_iff.mp H
   obtain ⟨⟨t1151, t1152, t1153⟩, A50, H⟩ := H
   replace H : (if t1150 = 0 then ((micro_Fits.f t1151 t1152).bind fun bt1155 => (if t1153 = 0 then (if bt1155.2 = true then (if bt1155.1 = t1149 then ((micro_Show.f k t1151 t1152).bind fun t1157 => ((micro_Print.f k t1149).bind fun t1158 => (some (t1157.toList == t1158.toList)))) else (some false)) else (some false)) else (some false))) else (if t1150 = 22 then (if t1153 = 20 then (some (t1150 == t1153)) else (if t1153 = 21 then (some (t1150 == t1153)) else (some true))) else (some (t1150 == t1153)))) = some r := H
   have A5 := Aside0.mk A50; clear A50
   by_cases c6 : t1150 = 0
   · rw [if_pos c6] at H
     have c6b0 : (t1150 == 0) = true := beq_iff_eq.mpr c6; have c6b1 : (t1150 != 0) = false := bne_eq_false_iff_eq.mpr c6; clear c6
     replace H := Option.bind_eq_some_iff.mp H
     obtain ⟨⟨t1155, t1156⟩, A70, H⟩ := H
     replace H : (if t1153 = 0 then (if t1156 = true then (if t1155 = t1149 then ((micro_Show.f k t1151 t1152).bind fun t1157 => ((micro_Print.f k t1149).bind fun t1158 => (some (t1157.toList == t1158.toList)))) else (some false)) else (some false)) else (some false)) = some r := H
     have A7 := Aside0.mk A70; clear A70
     by_cases c8 : t1153 = 0
     · rw [if_pos c8] at H
       have c8b0 : (t1153 == 0) = true := beq_iff_eq.mpr c8; have c8b1 : (t1153 != 0) = false := bne_eq_false_iff_eq.mpr c8; clear c8
       by_cases c9 : t1156 = true
       · subst c9
         have H1 : (if t1155 = t1149 then ((micro_Show.f k t1151 t1152).bind fun t1157 => ((micro_Print.f k t1149).bind fun t1158 => (some (t1157.toList == t1158.toList)))) else (some false)) = some r := by rw [if_pos rfl] at H; exact H
         clear H; have H := H1; clear H1
         by_cases c10 : t1155 = t1149
         · rw [if_pos c10] at H
           have c10b0 : (t1155 == t1149) = true := beq_iff_eq.mpr c10; have c10b1 : (t1155 != t1149) = false := bne_eq_false_iff_eq.mpr c10; clear c10
           replace H := Option.bind_eq_some_iff.mp H
           obtain ⟨t1157, A110, H⟩ := H
           replace H : ((micro_Print.f k t1149).bind fun t1158 => (some (t1157.toList == t1158.toList))) = some r := H
           have A11 := Aside0.mk A110; clear A110
           replace H := Option.bind_eq_some_iff.mp H
           obtain ⟨t1158, A120, H⟩ := H
           replace H : (some (t1157.toList == t1158.toList)) = some r := H
           have A12 := Aside0.mk A120; clear A120
           obtain rfl := Option.some.inj H
           go_enter Tryd.func24, Tryd.ntmps24
           go_wp2_with (first | ((with_reducible refine gate_callee (f := 61) rfl ?_); refine goesL_ (some 9) rfl rfl Tryd.func61 (by kernel_rfl) rfl #[] rfl rf ?_; (with_reducible refine (tumblerlaw02_awake.calls k  true _ (tN hT) A2.out).mono ?_); rintro e w13 ⟨rfl, hb⟩; refine ⟨_, rfl, ?_⟩; replace HB := am (below_step bz hb); (try clear hb); (try clear hb2); (try clear hk); (try clear hi)) | ((with_reducible refine gate_callee (f := 59) rfl ?_); refine goesL_ (some 13) rfl rfl Tryd.func59 (by kernel_rfl) rfl #[.string a0] rfl rf ?_; (with_reducible refine (micro_Parse.calls k a0 t1149 t1150 _ A4.out).mono ?_); rintro e w14 ⟨rfl, hb⟩; refine ⟨_, rfl, ?_⟩; replace HB := am (below_step bz hb); (try clear hb); (try clear hb2); (try clear hk); (try clear hi)) | ((with_reducible refine gate_callee (f := 58) rfl ?_); refine goesL_ (some 18) rfl rfl Tryd.func58 (by kernel_rfl) rfl #[.string a0] rfl rf ?_; (with_reducible refine (micro_Read.calls k a0 t1151 t1152 t1153 _ A5.out).mono ?_); rintro e w15 ⟨rfl, hb⟩; refine ⟨_, rfl, ?_⟩; replace HB := am (below_step bz hb); (try clear hb); (try clear hb2); (try clear hk); (try clear hi)) | ((with_reducible refine gate_dst (N := 5) rfl ?_); refine box_event (by rfl) (N := 5) (by rfl) (cs := #[.int .i64 0, .int .u64 0]) (t := 24) (by go_simp <;> rfl) ?_; intro gb1154 hg w16 hbox hb; have BK1154 := am (hbox); have GW1154 := gw w hg; replace HB := am (below_step bz hb); clear hb hbox hg; have hcz17_0 : w16.cell? ⟨gb1154, 0, none⟩ = some (.int .i64 0) := bc BK1154 0; have hcz17_1 : w16.cell? ⟨gb1154, 1, none⟩ = some (.int .u64 0) := bc BK1154 1; have hfz17_0 := blk_frozen BK1154.out 0; have hfz17_1 := blk_frozen BK1154.out 1) | ((with_reducible refine gate_callee (f := 63) rfl ?_); refine goesL_ (some 25) rfl rfl Tryd.func63 (by kernel_rfl) rfl #[.agg #[.int .i64 t1151, .int .u64 t1152]] rfl rf ?_; (with_reducible refine (micro_Fits.calls t1151 t1152 t1155 true _ A7.out).mono ?_); rintro e w18 ⟨rfl, hb⟩; refine ⟨_, rfl, ?_⟩; replace BK1154 := am (blk_below (g := gb1154) (o := .cells #[.int .i64 t1151, .int .u64 t1152] 24 (0, 0)) (blk_put (blk_put BK1154.out 0 _ rfl) 1 _ rfl) hb); replace HB := am (below_step bz hb); (try clear hb); (try clear hb2); (try clear hk); (try clear hi); have hcz19_0 : w18.cell? ⟨gb1154, 0, none⟩ = some (.int .i64 t1151) := bc BK1154 0; have hcz19_1 : w18.cell? ⟨gb1154, 1, none⟩ = some (.int .u64 t1152) := bc BK1154 1; have hfz19_0 := blk_frozen BK1154.out 0; have hfz19_1 := blk_frozen BK1154.out 1) | (go_at_call 54; (with_reducible refine (micro_Show.calls k t1151 t1152 t1157 _ (tN hT) A11.out).mono ?_); rintro e w20 ⟨rfl, hb⟩; replace BK1154 := am (bb BK1154 hb); replace HB := am (below_step bz hb); (try clear hb); (try clear hb2); (try clear hk); (try clear hi)) | (go_at_call 56; (with_reducible refine (micro_Print.calls k t1149 t1158 _ (tN hT) A12.out).mono ?_); rintro e w21 ⟨rfl, hb⟩; replace BK1154 := am (bb BK1154 hb); replace HB := am (below_step bz hb); (try clear hb); (try clear hb2); (try clear hk); (try clear hi)))
           go_ret
           exact ⟨rg, bz⟩
         · rw [if_neg c10] at H
           have c10b0 : (t1155 == t1149) = false := beq_eq_false_iff_ne.mpr c10; have c10b1 : (t1155 != t1149) = true := bne_iff_ne.mpr c10
           exact Bool.noConfusion ((Option.some.inj H).trans hr_.out)
       · replace c9 := Bool.eq_false_iff.mpr c9
         subst c9
         have H1 : (some false) = some r := by rw [if_neg (show ¬ (false = true) by decide)] at H; exact H
         clear H; have H := H1; clear H1
         exact Bool.noConfusion ((Option.some.inj H).trans hr_.out)
     · rw [if_neg c8] at H
       have c8b0 : (t1153 == 0) = false := beq_eq_false_iff_ne.mpr c8; have c8b1 : (t1153 != 0) = true := bne_iff_ne.mpr c8
       exact Bool.noConfusion ((Option.some.inj H).trans hr_.out)
   · rw [if_neg c6] at H
     have c6b0 : (t1150 == 0) = false := beq_eq_false_iff_ne.mpr c6; have c6b1 : (t1150 != 0) = true := bne_iff_ne.mpr c6
     by_cases c22 : t1150 = 22
     · rw [if_pos c22] at H
       have c22b0 : (t1150 == 22) = true := beq_iff_eq.mpr c22; have c22b1 : (t1150 != 22) = false := bne_eq_false_iff_eq.mpr c22; clear c22
       by_cases c23 : t1153 = 20
       · rw [if_pos c23] at H
         have c23b0 : (t1153 == 20) = true := beq_iff_eq.mpr c23; have c23b1 : (t1153 != 20) = false := bne_eq_false_iff_eq.mpr c23; clear c23
         obtain rfl := Option.some.inj H
         go_enter Tryd.func24, Tryd.ntmps24
         go_wp2_with (first | ((with_reducible refine gate_callee (f := 61) rfl ?_); refine goesL_ (some 9) rfl rfl Tryd.func61 (by kernel_rfl) rfl #[] rfl rf ?_; (with_reducible refine (tumblerlaw02_awake.calls k  true _ (tN hT) A2.out).mono ?_); rintro e w24 ⟨rfl, hb⟩; refine ⟨_, rfl, ?_⟩; replace HB := am (below_step bz hb); (try clear hb); (try clear hb2); (try clear hk); (try clear hi)) | ((with_reducible refine gate_callee (f := 59) rfl ?_); refine goesL_ (some 13) rfl rfl Tryd.func59 (by kernel_rfl) rfl #[.string a0] rfl rf ?_; (with_reducible refine (micro_Parse.calls k a0 t1149 t1150 _ A4.out).mono ?_); rintro e w25 ⟨rfl, hb⟩; refine ⟨_, rfl, ?_⟩; replace HB := am (below_step bz hb); (try clear hb); (try clear hb2); (try clear hk); (try clear hi)) | ((with_reducible refine gate_callee (f := 58) rfl ?_); refine goesL_ (some 18) rfl rfl Tryd.func58 (by kernel_rfl) rfl #[.string a0] rfl rf ?_; (with_reducible refine (micro_Read.calls k a0 t1151 t1152 t1153 _ A5.out).mono ?_); rintro e w26 ⟨rfl, hb⟩; refine ⟨_, rfl, ?_⟩; replace HB := am (below_step bz hb); (try clear hb); (try clear hb2); (try clear hk); (try clear hi)) | ((with_reducible refine gate_dst (N := 5) rfl ?_); refine box_event (by rfl) (N := 5) (by rfl) (cs := #[.int .i64 0, .int .u64 0]) (t := 24) (by go_simp <;> rfl) ?_; intro gb1154 hg w27 hbox hb; have BK1154 := am (hbox); have GW1154 := gw w hg; replace HB := am (below_step bz hb); clear hb hbox hg; have hcz28_0 : w27.cell? ⟨gb1154, 0, none⟩ = some (.int .i64 0) := bc BK1154 0; have hcz28_1 : w27.cell? ⟨gb1154, 1, none⟩ = some (.int .u64 0) := bc BK1154 1; have hfz28_0 := blk_frozen BK1154.out 0; have hfz28_1 := blk_frozen BK1154.out 1))
         go_ret
         exact ⟨rg, bz⟩
       · rw [if_neg c23] at H
         have c23b0 : (t1153 == 20) = false := beq_eq_false_iff_ne.mpr c23; have c23b1 : (t1153 != 20) = true := bne_iff_ne.mpr c23
         by_cases c29 : t1153 = 21
         · rw [if_pos c29] at H
           have c29b0 : (t1153 == 21) = true := beq_iff_eq.mpr c29; have c29b1 : (t1153 != 21) = false := bne_eq_false_iff_eq.mpr c29; clear c29
           obtain rfl := Option.some.inj H
           go_enter Tryd.func24, Tryd.ntmps24
           go_wp2_with (first | ((with_reducible refine gate_callee (f := 61) rfl ?_); refine goesL_ (some 9) rfl rfl Tryd.func61 (by kernel_rfl) rfl #[] rfl rf ?_; (with_reducible refine (tumblerlaw02_awake.calls k  true _ (tN hT) A2.out).mono ?_); rintro e w30 ⟨rfl, hb⟩; refine ⟨_, rfl, ?_⟩; replace HB := am (below_step bz hb); (try clear hb); (try clear hb2); (try clear hk); (try clear hi)) | ((with_reducible refine gate_callee (f := 59) rfl ?_); refine goesL_ (some 13) rfl rfl Tryd.func59 (by kernel_rfl) rfl #[.string a0] rfl rf ?_; (with_reducible refine (micro_Parse.calls k a0 t1149 t1150 _ A4.out).mono ?_); rintro e w31 ⟨rfl, hb⟩; refine ⟨_, rfl, ?_⟩; replace HB := am (below_step bz hb); (try clear hb); (try clear hb2); (try clear hk); (try clear hi)) | ((with_reducible refine gate_callee (f := 58) rfl ?_); refine goesL_ (some 18) rfl rfl Tryd.func58 (by kernel_rfl) rfl #[.string a0] rfl rf ?_; (with_reducible refine (micro_Read.calls k a0 t1151 t1152 t1153 _ A5.out).mono ?_); rintro e w32 ⟨rfl, hb⟩; refine ⟨_, rfl, ?_⟩; replace HB := am (below_step bz hb); (try clear hb); (try clear hb2); (try clear hk); (try clear hi)) | ((with_reducible refine gate_dst (N := 5) rfl ?_); refine box_event (by rfl) (N := 5) (by rfl) (cs := #[.int .i64 0, .int .u64 0]) (t := 24) (by go_simp <;> rfl) ?_; intro gb1154 hg w33 hbox hb; have BK1154 := am (hbox); have GW1154 := gw w hg; replace HB := am (below_step bz hb); clear hb hbox hg; have hcz34_0 : w33.cell? ⟨gb1154, 0, none⟩ = some (.int .i64 0) := bc BK1154 0; have hcz34_1 : w33.cell? ⟨gb1154, 1, none⟩ = some (.int .u64 0) := bc BK1154 1; have hfz34_0 := blk_frozen BK1154.out 0; have hfz34_1 := blk_frozen BK1154.out 1))
           go_ret
           exact ⟨rg, bz⟩
         · rw [if_neg c29] at H
           have c29b0 : (t1153 == 21) = false := beq_eq_false_iff_ne.mpr c29; have c29b1 : (t1153 != 21) = true := bne_iff_ne.mpr c29
           obtain rfl := Option.some.inj H
           go_enter Tryd.func24, Tryd.ntmps24
           go_wp2_with (first | ((with_reducible refine gate_callee (f := 61) rfl ?_); refine goesL_ (some 9) rfl rfl Tryd.func61 (by kernel_rfl) rfl #[] rfl rf ?_; (with_reducible refine (tumblerlaw02_awake.calls k  true _ (tN hT) A2.out).mono ?_); rintro e w35 ⟨rfl, hb⟩; refine ⟨_, rfl, ?_⟩; replace HB := am (below_step bz hb); (try clear hb); (try clear hb2); (try clear hk); (try clear hi)) | ((with_reducible refine gate_callee (f := 59) rfl ?_); refine goesL_ (some 13) rfl rfl Tryd.func59 (by kernel_rfl) rfl #[.string a0] rfl rf ?_; (with_reducible refine (micro_Parse.calls k a0 t1149 t1150 _ A4.out).mono ?_); rintro e w36 ⟨rfl, hb⟩; refine ⟨_, rfl, ?_⟩; replace HB := am (below_step bz hb); (try clear hb); (try clear hb2); (try clear hk); (try clear hi)) | ((with_reducible refine gate_callee (f := 58) rfl ?_); refine goesL_ (some 18) rfl rfl Tryd.func58 (by kernel_rfl) rfl #[.string a0] rfl rf ?_; (with_reducible refine (micro_Read.calls k a0 t1151 t1152 t1153 _ A5.out).mono ?_); rintro e w37 ⟨rfl, hb⟩; refine ⟨_, rfl, ?_⟩; replace HB := am (below_step bz hb); (try clear hb); (try clear hb2); (try clear hk); (try clear hi)) | ((with_reducible refine gate_dst (N := 5) rfl ?_); refine box_event (by rfl) (N := 5) (by rfl) (cs := #[.int .i64 0, .int .u64 0]) (t := 24) (by go_simp <;> rfl) ?_; intro gb1154 hg w38 hbox hb; have BK1154 := am (hbox); have GW1154 := gw w hg; replace HB := am (below_step bz hb); clear hb hbox hg; have hcz39_0 : w38.cell? ⟨gb1154, 0, none⟩ = some (.int .i64 0) := bc BK1154 0; have hcz39_1 : w38.cell? ⟨gb1154, 1, none⟩ = some (.int .u64 0) := bc BK1154 1; have hfz39_0 := blk_frozen BK1154.out 0; have hfz39_1 := blk_frozen BK1154.out 1))
           go_ret
           exact ⟨rg, bz⟩
     · rw [if_neg c22] at H
       have c22b0 : (t1150 == 22) = false := beq_eq_false_iff_ne.mpr c22; have c22b1 : (t1150 != 22) = true := bne_iff_ne.mpr c22
       obtain rfl := Option.some.inj H
       go_enter Tryd.func24, Tryd.ntmps24
       go_wp2_with (first | ((with_reducible refine gate_callee (f := 61) rfl ?_); refine goesL_ (some 9) rfl rfl Tryd.func61 (by kernel_rfl) rfl #[] rfl rf ?_; (with_reducible refine (tumblerlaw02_awake.calls k  true _ (tN hT) A2.out).mono ?_); rintro e w40 ⟨rfl, hb⟩; refine ⟨_, rfl, ?_⟩; replace HB := am (below_step bz hb); (try clear hb); (try clear hb2); (try clear hk); (try clear hi)) | ((with_reducible refine gate_callee (f := 59) rfl ?_); refine goesL_ (some 13) rfl rfl Tryd.func59 (by kernel_rfl) rfl #[.string a0] rfl rf ?_; (with_reducible refine (micro_Parse.calls k a0 t1149 t1150 _ A4.out).mono ?_); rintro e w41 ⟨rfl, hb⟩; refine ⟨_, rfl, ?_⟩; replace HB := am (below_step bz hb); (try clear hb); (try clear hb2); (try clear hk); (try clear hi)) | ((with_reducible refine gate_callee (f := 58) rfl ?_); refine goesL_ (some 18) rfl rfl Tryd.func58 (by kernel_rfl) rfl #[.string a0] rfl rf ?_; (with_reducible refine (micro_Read.calls k a0 t1151 t1152 t1153 _ A5.out).mono ?_); rintro e w42 ⟨rfl, hb⟩; refine ⟨_, rfl, ?_⟩; replace HB := am (below_step bz hb); (try clear hb); (try clear hb2); (try clear hk); (try clear hi)) | ((with_reducible refine gate_dst (N := 5) rfl ?_); refine box_event (by rfl) (N := 5) (by rfl) (cs := #[.int .i64 0, .int .u64 0]) (t := 24) (by go_simp <;> rfl) ?_; intro gb1154 hg w43 hbox hb; have BK1154 := am (hbox); have GW1154 := gw w hg; replace HB := am (below_step bz hb); clear hb hbox hg; have hcz44_0 : w43.cell? ⟨gb1154, 0, none⟩ = some (.int .i64 0) := bc BK1154 0; have hcz44_1 : w43.cell? ⟨gb1154, 1, none⟩ = some (.int .u64 0) := bc BK1154 1; have hfz44_0 := blk_frozen BK1154.out 0; have hfz44_1 := blk_frozen BK1154.out 1))
       go_ret
       exact ⟨rg, bz⟩
 · replace c3 := Bool.eq_false_iff.mpr c3
   subst c3
   have H1 : (some false) = some r := by rw [if_neg (show ¬ (false = true) by decide)] at H; exact H
   clear H; have H := H1; clear H1
   exact Bool.noConfusion ((Option.some.inj H).trans hr_.out)

/-- THE ONE PURE STATEMENT of tumblerlaw02_MicroSame: yours. -/
def tumblerlaw02_MicroSame.Pure : Prop := ∀ (a0 : ByteArray), a0.size ≤ 1048576 → ∃ k, tumblerlaw02_MicroSame.f k a0 = some true
theorem tumblerlaw02_MicroSame.walk (P : tumblerlaw02_MicroSame.Pure) (a0 : ByteArray) (w : World) (hT : Aside0 (WF w)) (w0 : a0.size ≤ 1048576) :
 Calls Tryd.prog 24 #[.string a0] w fun e w' => e = .returned (.bool true) ∧ Below w.heap.size w w' := by
 obtain ⟨k, h⟩ := P a0 w0
 refine (tumblerlaw02_MicroSame.calls k a0 true w hT ⟨rfl⟩ h).mono ?_
 rintro e w' ⟨rfl, hd⟩
 exact ⟨rfl, hd⟩

end Go.Proofs.YtcfhmbhlibhlnaaDoor.P
