-- Printed by this session's own pp.py (wip/tool) out of the translation.
import Derived.Test.YtcfhmbhlibhlnaaDoorPx0
import Derived.Test.YtcfhmbhlibhlnaaDoorPxg0
import Derived.Test.YtcfhmbhlibhlnaaDoorPxf58
import Derived.Test.YtcfhmbhlibhlnaaDoorPxf61
import Derived.Test.YtcfhmbhlibhlnaaDoorPxf62
namespace Go.Proofs.YtcfhmbhlibhlnaaDoor.P
open Go.RowKit Go.Proofs.YtcfhmbhlibhlnaaDoorW.PrintWords Go.Proofs.YtcfhmbhlibhlnaaDoorW.PrintLast Go.Proofs.YtcfhmbhlibhlnaaDoorW.PrintMore Go.Proofs.YtcfhmbhlibhlnaaDoor.Mine
attribute [local go_sem] ext71 ext79 eqA61 eqA62
attribute [local go_sem] max2_int min2_int max_two min_two max_three min_three max_four min_four   -- for this text's walks alone
set_option linter.unusedVariables false
set_option linter.unusedSimpArgs false

attribute [local go_sem high] eqA24
/-! ### tumblerlaw02_MicroReads: function 22 -/
def tumblerlaw02_MicroReads.f (k : Nat) (a0 : ByteArray) : Option (Bool) := (micro_Read.f k a0).bind fun bt1130 => ((tumblerref02_Read.f k a0).bind fun bt1134 => ((tumblerlaw02_awake.f k).bind fun t1138 => (if t1138 = true then (if (bt1130.1 == bt1134.1 && (bt1130.2.1 == bt1134.2.1)) = true then (some (bt1130.2.2 == bt1134.2.2)) else (some false)) else (some false))))
theorem tumblerlaw02_MicroReads.mono : ∀ a0 k, LeO (tumblerlaw02_MicroReads.f k a0) (tumblerlaw02_MicroReads.f (k + 1) a0) := by
 intro a0 k
 unfold tumblerlaw02_MicroReads.f
 repeat' first
  | (with_reducible exact micro_Read.mono _ _)
  | (with_reducible exact tumblerlaw02_awake.mono _)
  | (with_reducible exact tumblerref02_Read.mono _ _)
  | (with_reducible exact LeO.refl _)
  | (with_reducible exact LeO.none _)
  | (with_reducible refine LeO.ite ?_ ?_)
  | (with_reducible refine LeO.bind ?_ (fun _ => ?_))
  | exact micro_Read.mono _ _
  | exact tumblerlaw02_awake.mono _
  | exact tumblerref02_Read.mono _ _
  | exact LeO.none _
  | refine LeO.ite ?_ ?_
  | refine LeO.bind ?_ (fun _ => ?_)
set_option maxHeartbeats 8000000 in
set_option maxRecDepth 100000 in
theorem tumblerlaw02_MicroReads.calls (k : Nat) (a0 : ByteArray) (r : Bool) (w : World) (hT : Aside0 (WF w)) (hr_ : Aside0 (r = true)) (h : tumblerlaw02_MicroReads.f k a0 = some r) :
 Calls Tryd.prog 22 #[.string a0] w fun e w' => e = .returned (.bool r) ∧ Below w.heap.size w w' := by
 have hu24 := Tryd.underlying24; have HB := am (Below.refl w.heap.size w); have H : ((micro_Read.f k a0).bind fun bt1130 => ((tumblerref02_Read.f k a0).bind fun bt1134 => ((tumblerlaw02_awake.f k).bind fun t1138 => (if t1138 = true then (if (bt1130.1 == bt1134.1 && (bt1130.2.1 == bt1134.2.1)) = true then (some (bt1130.2.2 == bt1134.2.2)) else (some false)) else (some false))))) = some r := h; clear h
 replace H := Option.bind_eq_some_iff.mp H
 obtain ⟨⟨t1130, t1131, t1132⟩, A20, H⟩ := H
 replace H : ((tumblerref02_Read.f k a0).bind fun bt1134 => ((tumblerlaw02_awake.f k).bind fun t1138 => (if t1138 = true then (if (t1130 == bt1134.1 && (t1131 == bt1134.2.1)) = true then (some (t1132 == bt1134.2.2)) else (some false)) else (some false)))) = some r := H
 have A2 := Aside0.mk A20; clear A20
 replace H := Option.bind_eq_some_iff.mp H
 obtain ⟨⟨t1134, t1135, t1136⟩, A30, H⟩ := H
 replace H : ((tumblerlaw02_awake.f k).bind fun t1138 => (if t1138 = true then (if (t1130 == t1134 && (t1131 == t1135)) = true then (some (t1132 == t1136)) else (some false)) else (some false))) = some r := H
 have A3 := Aside0.mk A30; clear A30
 replace H := Option.bind_eq_some_iff.mp H
 obtain ⟨t1138, A40, H⟩ := H
 replace H : (if t1138 = true then (if (t1130 == t1134 && (t1131 == t1135)) = true then (some (t1132 == t1136)) else (some false)) else (some false)) = some r := H
 have A4 := Aside0.mk A40; clear A40
 by_cases c5 : t1138 = true
 · subst c5
   have H1 : (if (t1130 == t1134 && (t1131 == t1135)) = true then (some (t1132 == t1136)) else (some false)) = some r := by rw [if_pos rfl] at H; exact H
   clear H; have H := H1; clear H1
   by_cases c6 : (t1130 == t1134 && (t1131 == t1135)) = true
   · rw [if_pos c6] at H
     have c6b0 : (t1130 == t1134 && (t1131 == t1135)) = true := c6; (try (have c6b1 : decide (t1130 = t1134 && (t1131 == t1135)) = true := by simpa using c6)); (try (have c6b2 : (t1130 == t1134 && (t1131 == t1135)) = true := by simpa using c6)); clear c6
     obtain rfl := Option.some.inj H
     go_enter Tryd.func22, Tryd.ntmps22
     go_wp2_with (first | ((with_reducible refine gate_callee (f := 58) rfl ?_); refine goesL_ (some 9) rfl rfl Tryd.func58 (by kernel_rfl) rfl #[.string a0] rfl rf ?_; (with_reducible refine (micro_Read.calls k a0 t1130 t1131 t1132 _ A2.out).mono ?_); rintro e w7 ⟨rfl, hb⟩; refine ⟨_, rfl, ?_⟩; replace HB := am (below_step bz hb); (try clear hb); (try clear hb2); (try clear hk); (try clear hi)) | ((with_reducible refine gate_dst (N := 3) rfl ?_); refine box_event (by rfl) (N := 3) (by rfl) (cs := #[.int .i64 0, .int .u64 0]) (t := 24) (by go_simp <;> rfl) ?_; intro gb1133 hg w8 hbox hb; have BK1133 := am (hbox); have GW1133 := gw w hg; replace HB := am (below_step bz hb); clear hb hbox hg; have hcz9_0 : w8.cell? ⟨gb1133, 0, none⟩ = some (.int .i64 0) := bc BK1133 0; have hcz9_1 : w8.cell? ⟨gb1133, 1, none⟩ = some (.int .u64 0) := bc BK1133 1; have hfz9_0 := blk_frozen BK1133.out 0; have hfz9_1 := blk_frozen BK1133.out 1) | ((with_reducible refine gate_callee (f := 62) rfl ?_); refine goesL_ (some 14) rfl rfl Tryd.func62 (by kernel_rfl) rfl #[.string a0] rfl rf ?_; (with_reducible refine (tumblerref02_Read.calls k a0 t1134 t1135 t1136 _ A3.out).mono ?_); rintro e w10 ⟨rfl, hb⟩; refine ⟨_, rfl, ?_⟩; replace BK1133 := am (blk_below (g := gb1133) (o := .cells #[.int .i64 t1130, .int .u64 t1131] 24 (0, 0)) (blk_put (blk_put BK1133.out 0 _ rfl) 1 _ rfl) hb); replace HB := am (below_step bz hb); (try clear hb); (try clear hb2); (try clear hk); (try clear hi)) | ((with_reducible refine gate_dst (N := 5) rfl ?_); refine box_event (by rfl) (N := 5) (by rfl) (cs := #[.int .i64 0, .int .u64 0]) (t := 24) (by go_simp <;> rfl) ?_; intro gb1137 hg w11 hbox hb; have BK1137 := am (hbox); have GW1137 := gw w hg; replace HB := am (below_step bz hb); have NB1133_1137 := nl BK1133 hg; have NB1137_1133 := nr BK1133 hg; replace BK1133 := am (bb BK1133 hb); clear hb hbox hg; have hnb12 := NB1137_1133.out; have hnc12 := NB1133_1137.out; have hcz13_0 : w11.cell? ⟨gb1137, 0, none⟩ = some (.int .i64 0) := bc BK1137 0; have hcz13_1 : w11.cell? ⟨gb1137, 1, none⟩ = some (.int .u64 0) := bc BK1137 1; have hfz13_0 := blk_frozen BK1137.out 0; have hfz13_1 := blk_frozen BK1137.out 1) | ((with_reducible refine gate_callee (f := 61) rfl ?_); refine goesL_ (some 17) rfl rfl Tryd.func61 (by kernel_rfl) rfl #[] rfl rf ?_; (with_reducible refine (tumblerlaw02_awake.calls k  true _ (tN hT) A4.out).mono ?_); rintro e w14 ⟨rfl, hb⟩; refine ⟨_, rfl, ?_⟩; replace BK1133 := am (blk_below (g := gb1133) (o := .cells #[.int .i64 t1130, .int .u64 t1131] 24 (0, 0)) kg hb); replace BK1137 := am (blk_below (g := gb1137) (o := .cells #[.int .i64 t1134, .int .u64 t1135] 24 (0, 0)) (blk_put (blk_put BK1137.out 0 _ rfl) 1 _ rfl) hb); replace HB := am (below_step bz hb); (try clear hb); (try clear hb2); (try clear hk); (try clear hi); have hcz15_0 : w14.cell? ⟨gb1133, 0, none⟩ = some (.int .i64 t1130) := bc BK1133 0; have hcz15_1 : w14.cell? ⟨gb1133, 1, none⟩ = some (.int .u64 t1131) := bc BK1133 1; have hfz15_0 := blk_frozen BK1133.out 0; have hfz15_1 := blk_frozen BK1133.out 1; have hcz16_0 : w14.cell? ⟨gb1137, 0, none⟩ = some (.int .i64 t1134) := bc BK1137 0; have hcz16_1 : w14.cell? ⟨gb1137, 1, none⟩ = some (.int .u64 t1135) := bc BK1137 1; have hfz16_0 := blk_frozen BK1137.out 0; have hfz16_1 := blk_frozen BK1137.out 1))
     go_ret
     exact ⟨rg, bz⟩
   · rw [if_neg c6] at H
     have c6b0 : (t1130 == t1134 && (t1131 == t1135)) = false := by simpa using c6
     (try (have c6b1 : decide (t1130 = t1134 && (t1131 == t1135)) = false := by simpa using c6)); (try (have c6b2 : (t1130 == t1134 && (t1131 == t1135)) = false := by simpa using c6)); (try (have c6b3 : ¬ (t1130 = t1134 && (t1131 == t1135)) := by simpa using c6)); clear c6
     exact Bool.noConfusion ((Option.some.inj H).trans hr_.out)
 · replace c5 := Bool.eq_false_iff.mpr c5
   subst c5
   have H1 : (some false) = some r := by rw [if_neg (show ¬ (false = true) by decide)] at H; exact H
   clear H; have H := H1; clear H1
   exact Bool.noConfusion ((Option.some.inj H).trans hr_.out)

/-- THE ONE PURE STATEMENT of tumblerlaw02_MicroReads: yours. -/
def tumblerlaw02_MicroReads.Pure : Prop := ∀ (a0 : ByteArray), a0.size ≤ 1048576 → ∃ k, tumblerlaw02_MicroReads.f k a0 = some true
theorem tumblerlaw02_MicroReads.walk (P : tumblerlaw02_MicroReads.Pure) (a0 : ByteArray) (w : World) (hT : Aside0 (WF w)) (w0 : a0.size ≤ 1048576) :
 Calls Tryd.prog 22 #[.string a0] w fun e w' => e = .returned (.bool true) ∧ Below w.heap.size w w' := by
 obtain ⟨k, h⟩ := P a0 w0
 refine (tumblerlaw02_MicroReads.calls k a0 true w hT ⟨rfl⟩ h).mono ?_
 rintro e w' ⟨rfl, hd⟩
 exact ⟨rfl, hd⟩

end Go.Proofs.YtcfhmbhlibhlnaaDoor.P
