-- Printed by this session's own pp.py (wip/tool) out of the translation.
import Derived.Test.YtcfhmbhlibhlnaaDoorPx0
import Derived.Test.YtcfhmbhlibhlnaaDoorPxg0
import Derived.Test.YtcfhmbhlibhlnaaDoorPxf54
import Derived.Test.YtcfhmbhlibhlnaaDoorPxf58
namespace Go.Proofs.YtcfhmbhlibhlnaaDoor.P
open Go.RowKit Go.Proofs.YtcfhmbhlibhlnaaDoorW.PrintWords Go.Proofs.YtcfhmbhlibhlnaaDoorW.PrintLast Go.Proofs.YtcfhmbhlibhlnaaDoorW.PrintMore Go.Proofs.YtcfhmbhlibhlnaaDoor.Mine
attribute [local go_sem] ext71 ext79 eqA61 eqA62
attribute [local go_sem] max2_int min2_int max_two min_two max_three min_three max_four min_four   -- for this text's walks alone
set_option linter.unusedVariables false
set_option linter.unusedSimpArgs false

attribute [local go_sem high] eqA24
/-! ### tumblerlaw02_MicroWideBack: function 19 -/
def tumblerlaw02_MicroWideBack.f (k : Nat) (a0_0 : Int) (a0_1 : Int) : Option (Bool) := (micro_Show.f k a0_0 a0_1).bind fun t1044 => ((micro_Read.f k t1044).bind fun bt1045 => (if (bt1045.1 == a0_0 && (bt1045.2.1 == a0_1)) = true then (if bt1045.2.2 = 0 then (some (decide ((t1044.size : Int) > 0))) else (some false)) else (some false)))
theorem tumblerlaw02_MicroWideBack.mono : ∀ a0 a1 k, LeO (tumblerlaw02_MicroWideBack.f k a0 a1) (tumblerlaw02_MicroWideBack.f (k + 1) a0 a1) := by
 intro a0 a1 k
 unfold tumblerlaw02_MicroWideBack.f
 repeat' first
  | (with_reducible exact micro_Read.mono _ _)
  | (with_reducible exact micro_Show.mono _ _ _)
  | (with_reducible exact LeO.refl _)
  | (with_reducible exact LeO.none _)
  | (with_reducible refine LeO.ite ?_ ?_)
  | (with_reducible refine LeO.bind ?_ (fun _ => ?_))
  | exact micro_Read.mono _ _
  | exact micro_Show.mono _ _ _
  | exact LeO.none _
  | refine LeO.ite ?_ ?_
  | refine LeO.bind ?_ (fun _ => ?_)
set_option maxHeartbeats 8000000 in
set_option maxRecDepth 100000 in
theorem tumblerlaw02_MicroWideBack.calls (k : Nat) (a0_0 : Int) (a0_1 : Int) (r : Bool) (w : World) (hT : Aside0 (WF w)) (hr_ : Aside0 (r = true)) (h : tumblerlaw02_MicroWideBack.f k a0_0 a0_1 = some r) :
 Calls Tryd.prog 19 #[.agg #[.int .i64 a0_0, .int .u64 a0_1]] w fun e w' => e = .returned (.bool r) ∧ Below w.heap.size w w' := by
 have hu24 := Tryd.underlying24; have HB := am (Below.refl w.heap.size w); have H : ((micro_Show.f k a0_0 a0_1).bind fun t1044 => ((micro_Read.f k t1044).bind fun bt1045 => (if (bt1045.1 == a0_0 && (bt1045.2.1 == a0_1)) = true then (if bt1045.2.2 = 0 then (some (decide ((t1044.size : Int) > 0))) else (some false)) else (some false)))) = some r := h; clear h
 replace H := Option.bind_eq_some_iff.mp H
 obtain ⟨t1044, A20, H⟩ := H
 replace H : ((micro_Read.f k t1044).bind fun bt1045 => (if (bt1045.1 == a0_0 && (bt1045.2.1 == a0_1)) = true then (if bt1045.2.2 = 0 then (some (decide ((t1044.size : Int) > 0))) else (some false)) else (some false))) = some r := H
 have A2 := Aside0.mk A20; clear A20
 replace H := Option.bind_eq_some_iff.mp H
 obtain ⟨⟨t1045, t1046, t1047⟩, A30, H⟩ := H
 replace H : (if (t1045 == a0_0 && (t1046 == a0_1)) = true then (if t1047 = 0 then (some (decide ((t1044.size : Int) > 0))) else (some false)) else (some false)) = some r := H
 have A3 := Aside0.mk A30; clear A30
 by_cases c4 : (t1045 == a0_0 && (t1046 == a0_1)) = true
 · rw [if_pos c4] at H
   have c4b0 : (t1045 == a0_0 && (t1046 == a0_1)) = true := c4; (try (have c4b1 : decide (t1045 = a0_0 && (t1046 == a0_1)) = true := by simpa using c4)); (try (have c4b2 : (t1045 == a0_0 && (t1046 == a0_1)) = true := by simpa using c4)); clear c4
   by_cases c5 : t1047 = 0
   · rw [if_pos c5] at H
     have c5b0 : (t1047 == 0) = true := beq_iff_eq.mpr c5; have c5b1 : (t1047 != 0) = false := bne_eq_false_iff_eq.mpr c5; clear c5
     obtain rfl := Option.some.inj H
     go_enter Tryd.func19, Tryd.ntmps19
     go_wp2_with (first | ((with_reducible refine gate_dst (N := 1) rfl ?_); (try (refine gate_guard (by rfl) ?_; dsimp only)); refine box_event (by rfl) (N := 1) (by rfl) (cs := #[.int .i64 a0_0, .int .u64 a0_1]) (t := 24) (by go_simp <;> rfl) ?_; intro gb1043 hg w6 hbox hb; have BK1043 := am (hbox); have GW1043 := gw w hg; replace HB := am (below_step bz hb); clear hb hbox hg; have hcz7_0 : w6.cell? ⟨gb1043, 0, none⟩ = some (.int .i64 a0_0) := bc BK1043 0; have hcz7_1 : w6.cell? ⟨gb1043, 1, none⟩ = some (.int .u64 a0_1) := bc BK1043 1; have hfz7_0 := blk_frozen BK1043.out 0; have hfz7_1 := blk_frozen BK1043.out 1) | ((with_reducible refine gate_callee (f := 54) rfl ?_); refine goesL_ (some 7) rfl rfl Tryd.func54 (by kernel_rfl) rfl #[.agg #[.int .i64 a0_0, .int .u64 a0_1]] rfl rf ?_; (with_reducible refine (micro_Show.calls k a0_0 a0_1 t1044 _ (tN hT) A2.out).mono ?_); rintro e w8 ⟨rfl, hb⟩; refine ⟨_, rfl, ?_⟩; replace BK1043 := am (bb BK1043 hb); replace HB := am (below_step bz hb); (try clear hb); (try clear hb2); (try clear hk); (try clear hi)) | ((with_reducible refine gate_callee (f := 58) rfl ?_); refine goesL_ (some 10) rfl rfl Tryd.func58 (by kernel_rfl) rfl #[.string t1044] rfl rf ?_; (with_reducible refine (micro_Read.calls k t1044 t1045 t1046 t1047 _ A3.out).mono ?_); rintro e w9 ⟨rfl, hb⟩; refine ⟨_, rfl, ?_⟩; replace BK1043 := am (bb BK1043 hb); replace HB := am (below_step bz hb); (try clear hb); (try clear hb2); (try clear hk); (try clear hi)) | ((with_reducible refine gate_dst (N := 4) rfl ?_); (try (refine gate_guard (by rfl) ?_; dsimp only)); refine box_event (by rfl) (N := 4) (by rfl) (cs := #[.int .i64 0, .int .u64 0]) (t := 24) (by go_simp <;> rfl) ?_; intro gb1048 hg w10 hbox hb; have BK1048 := am (hbox); have GW1048 := gw w hg; replace HB := am (below_step bz hb); have NB1043_1048 := nl BK1043 hg; have NB1048_1043 := nr BK1043 hg; replace BK1043 := am (bb BK1043 hb); clear hb hbox hg; have hnb11 := NB1048_1043.out; have hnc11 := NB1043_1048.out; have hcz12_0 : w10.cell? ⟨gb1048, 0, none⟩ = some (.int .i64 0) := bc BK1048 0; have hcz12_1 : w10.cell? ⟨gb1048, 1, none⟩ = some (.int .u64 0) := bc BK1048 1; have hfz12_0 := blk_frozen BK1048.out 0; have hfz12_1 := blk_frozen BK1048.out 1; have hcz13_0 : w10.cell? ⟨gb1043, 0, none⟩ = some (.int .i64 a0_0) := bc BK1043 0; have hcz13_1 : w10.cell? ⟨gb1043, 1, none⟩ = some (.int .u64 a0_1) := bc BK1043 1; have hfz13_0 := blk_frozen BK1043.out 0; have hfz13_1 := blk_frozen BK1043.out 1))
     go_ret
     exact ⟨rg, bz⟩
   · rw [if_neg c5] at H
     have c5b0 : (t1047 == 0) = false := beq_eq_false_iff_ne.mpr c5; have c5b1 : (t1047 != 0) = true := bne_iff_ne.mpr c5
     exact Bool.noConfusion ((Option.some.inj H).trans hr_.out)
 · rw [if_neg c4] at H
   have c4b0 : (t1045 == a0_0 && (t1046 == a0_1)) = false := by simpa using c4
   (try (have c4b1 : decide (t1045 = a0_0 && (t1046 == a0_1)) = false := by simpa using c4)); (try (have c4b2 : (t1045 == a0_0 && (t1046 == a0_1)) = false := by simpa using c4)); (try (have c4b3 : ¬ (t1045 = a0_0 && (t1046 == a0_1)) := by simpa using c4)); clear c4
   exact Bool.noConfusion ((Option.some.inj H).trans hr_.out)

/-- THE ONE PURE STATEMENT of tumblerlaw02_MicroWideBack: yours. -/
def tumblerlaw02_MicroWideBack.Pure : Prop := ∀ (a0_0 : Int) (a0_1 : Int), (Lit.int .i64 a0_0).wf = true → (Lit.int .u64 a0_1).wf = true → ∃ k, tumblerlaw02_MicroWideBack.f k a0_0 a0_1 = some true
theorem tumblerlaw02_MicroWideBack.walk (P : tumblerlaw02_MicroWideBack.Pure) (a0_0 : Int) (a0_1 : Int) (w : World) (hT : Aside0 (WF w)) (w0_0 : (Lit.int .i64 a0_0).wf = true) (w0_1 : (Lit.int .u64 a0_1).wf = true) :
 Calls Tryd.prog 19 #[.agg #[.int .i64 a0_0, .int .u64 a0_1]] w fun e w' => e = .returned (.bool true) ∧ Below w.heap.size w w' := by
 obtain ⟨k, h⟩ := P a0_0 a0_1 w0_0 w0_1
 refine (tumblerlaw02_MicroWideBack.calls k a0_0 a0_1 true w hT ⟨rfl⟩ h).mono ?_
 rintro e w' ⟨rfl, hd⟩
 exact ⟨rfl, hd⟩

end Go.Proofs.YtcfhmbhlibhlnaaDoor.P
