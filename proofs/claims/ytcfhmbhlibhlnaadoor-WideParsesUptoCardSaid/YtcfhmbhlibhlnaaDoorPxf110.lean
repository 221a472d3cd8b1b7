-- Printed by this session's own pp.py (wip/tool) out of the translation.
import Derived.Test.YtcfhmbhlibhlnaaDoorPx0
import Derived.Test.YtcfhmbhlibhlnaaDoorPxf103
import Derived.Test.YtcfhmbhlibhlnaaDoorPxf126
namespace Go.Proofs.YtcfhmbhlibhlnaaDoor.P
open Go.RowKit Go.Proofs.YtcfhmbhlibhlnaaDoorW.PrintWords Go.Proofs.YtcfhmbhlibhlnaaDoorW.PrintLast Go.Proofs.YtcfhmbhlibhlnaaDoorW.PrintMore Go.Proofs.YtcfhmbhlibhlnaaDoor.Mine
attribute [local go_sem] ext71 ext79 eqA61 eqA62
attribute [local go_sem] max2_int min2_int max_two min_two max_three min_three max_four min_four   -- for this text's walks alone
set_option linter.unusedVariables false
set_option linter.unusedSimpArgs false

/-! ### tumblerref01_subL: function 110 -/
def tumblerref01_subL.l0 : Nat → List Int → List Int → List Int → Int → Int → Option (List Int)
 | 0, _, _, _, _, _ => none
 | k + 1, x0, x1, x5, x6, x7 => if x7 < (x0.length : Int) then ((tumblerref01_limb.f x0 x7).bind fun t330 => ((tumblerref01_limb.f x1 x7).bind fun t331 => (if x5.length < 35184372088832 then (tumblerref01_subL.l0 k x0 x1 (x5 ++ [Go.bits .and .u32 ((((((t330 + 65536) % 4294967296) - t331) % 4294967296) - x6) % 4294967296) 65535]) ((1 - (((((((t330 + 65536) % 4294967296) - t331) % 4294967296) - x6) % 4294967296) / 65536)) % 4294967296) (wrap64 (x7 + 1))) else (none)))) else ((tumblerref01_trim.f k x5).bind fun t335 => (some t335))
def tumblerref01_subL.f (k : Nat) (l0 : List Int) (l1 : List Int) : Option (List Int) := tumblerref01_subL.l0 k l0 l1 ([] : List Int) 0 0
theorem tumblerref01_subL.mono_l : ∀ k, (∀ y0 y1 y2 y3 y4, LeO (tumblerref01_subL.l0 k y0 y1 y2 y3 y4) (tumblerref01_subL.l0 (k + 1) y0 y1 y2 y3 y4))
 | 0 => fun _ _ _ _ _ r h => by simp [tumblerref01_subL.l0] at h
 | k + 1 => by
  have ih0 := tumblerref01_subL.mono_l k
  · intro y0 y1 y2 y3 y4
    unfold tumblerref01_subL.l0
    repeat' first
    | (with_reducible exact ih0 _ _ _ _ _)
    | (with_reducible exact tumblerref01_trim.mono _ _)
    | (with_reducible exact LeO.refl _)
    | (with_reducible exact LeO.none _)
    | (with_reducible refine LeO.ite ?_ ?_)
    | (with_reducible refine LeO.bind ?_ (fun _ => ?_))
    | exact ih0 _ _ _ _ _
    | exact tumblerref01_trim.mono _ _
    | exact LeO.none _
    | refine LeO.ite ?_ ?_
    | refine LeO.bind ?_ (fun _ => ?_)
theorem tumblerref01_subL.mono : ∀ a0 a1 k, LeO (tumblerref01_subL.f k a0 a1) (tumblerref01_subL.f (k + 1) a0 a1) := by
 intro a0 a1 k; have ih0 := tumblerref01_subL.mono_l k
 unfold tumblerref01_subL.f
 repeat' first
  | (with_reducible exact ih0 _ _ _ _ _)
  | (with_reducible exact tumblerref01_trim.mono _ _)
  | (with_reducible exact LeO.refl _)
  | (with_reducible exact LeO.none _)
  | (with_reducible refine LeO.ite ?_ ?_)
  | (with_reducible refine LeO.bind ?_ (fun _ => ?_))
  | exact ih0 _ _ _ _ _
  | exact tumblerref01_trim.mono _ _
  | exact LeO.none _
  | refine LeO.ite ?_ ?_
  | refine LeO.bind ?_ (fun _ => ?_)
set_option maxHeartbeats 8000000 in
set_option maxRecDepth 100000 in
theorem tumblerref01_subL.calls (k : Nat) (A0 : Option Addr) (c0 : Nat) (l0 : List Int) (A1 : Option Addr) (c1 : Nat) (l1 : List Int) (r : List Int) (w : World) (hr0 : Kd.C (Kd.int .u32) w A0 l0.length l0) (hc0 : l0.length ≤ c0) (hr1 : Kd.C (Kd.int .u32) w A1 l1.length l1) (hc1 : l1.length ≤ c1) (h : tumblerref01_subL.f k l0 l1 = some r) :
 Calls Tryd.prog 110 #[.slice A0 l0.length c0, .slice A1 l1.length c1] w fun e w' => ∃ v0_ : Value, e = .returned (v0_) ∧ Kd.V (Kd.int .u32) 121 w' w.heap.size (fun k_ => (w.heap.size ≤ k_)) v0_ r ∧ Below w.heap.size w w' := by
 have HR0 := Aside0.mk hr0; have HC0 := Aside0.mk hc0; clear hr0 hc0; have HR1 := Aside0.mk hr1; have HC1 := Aside0.mk hc1; clear hr1 hc1; have HB := am (Below.refl w.heap.size w); have H : (tumblerref01_subL.l0 k l0 l1 ([] : List Int) 0 0) = some r := h; clear h; have H' := Aside0.mk H; clear H
 go_enter Tryd.func110, Tryd.ntmps110
 go_wp2
 go_loopg [5, 6, 7] k (fun kq v5 v6 v7 w' => ∃ (x5_1 : List Int) (x6_1 : Int) (x7_1 : Int), v6 = .int .u32 x6_1 ∧ v7 = .int .i64 x7_1 ∧ Aside0 (tumblerref01_subL.l0 kq l0 l1 x5_1 x6_1 x7_1 = some r) ∧ Aside0 (kq ≤ k) ∧ Aside0 (Kd.R (Kd.int .u32) 121 w' w.heap.size (fun k_ => (w.heap.size ≤ k_)) v5 x5_1) ∧ Aside0 (Below w.heap.size w w'))
 case atStart => exact ⟨(([] : List Int)), (0), (0), (by first | rfl | (simp; done) | (simp [*]; done)), (by first | rfl | (simp; done) | (simp [*]; done)), H', ⟨Nat.le_refl _⟩, ⟨by first | exact Kd.R_nil _ _ _ _ _ | exact Kd.N_nil _ _ _ _ _ | exact Kd.V_nil _ _ _ _ _ | exact Kd.Q_nil _ _ _ _ _ | exact Kd.S_nil _ _ _ _ _⟩, ⟨by repeat (first | (with_reducible first | exact HB.out | apply dA | apply dB | apply dC) | exact HB.out)⟩⟩
 case round =>
  clear H'
  try clear c1
  try clear p2
  obtain ⟨x5_1, x6_1, x7_1, rfl, rfl, HA, HK1, HO_5, HB⟩ := hrel
  cases gk with
  | zero => exact absurd HA.out (by simp [tumblerref01_subL.l0])
  | succ k1 =>
   have H := HA.out; clear HA
   simp only [tumblerref01_subL.l0] at H
   by_cases c3 : x7_1 < (l0.length : Int)
   · rw [if_pos c3] at H
     have c3b0 : decide (x7_1 < (l0.length : Int)) = true := decide_eq_true c3; clear c3
     replace H := Option.bind_eq_some_iff.mp H
     obtain ⟨t330, A40, H⟩ := H
     replace H : ((tumblerref01_limb.f l1 x7_1).bind fun t331 => (if x5_1.length < 35184372088832 then (tumblerref01_subL.l0 k1 l0 l1 (x5_1 ++ [Go.bits .and .u32 ((((((t330 + 65536) % 4294967296) - t331) % 4294967296) - x6_1) % 4294967296) 65535]) ((1 - (((((((t330 + 65536) % 4294967296) - t331) % 4294967296) - x6_1) % 4294967296) / 65536)) % 4294967296) (wrap64 (x7_1 + 1))) else (none))) = some r := H
     have A4 := Aside0.mk A40; clear A40
     replace H := Option.bind_eq_some_iff.mp H
     obtain ⟨t331, A50, H⟩ := H
     replace H : (if x5_1.length < 35184372088832 then (tumblerref01_subL.l0 k1 l0 l1 (x5_1 ++ [Go.bits .and .u32 ((((((t330 + 65536) % 4294967296) - t331) % 4294967296) - x6_1) % 4294967296) 65535]) ((1 - (((((((t330 + 65536) % 4294967296) - t331) % 4294967296) - x6_1) % 4294967296) / 65536)) % 4294967296) (wrap64 (x7_1 + 1))) else (none)) = some r := H
     have A5 := Aside0.mk A50; clear A50
     by_cases c6 : x5_1.length < 35184372088832
     · rw [if_pos c6] at H
       have LMc6 := Aside0.mk c6; clear c6
       obtain ⟨y332, hy332⟩ : ∃ y_ : List Int, y_ = (x5_1 ++ [Go.bits .and .u32 ((((((t330 + 65536) % 4294967296) - t331) % 4294967296) - x6_1) % 4294967296) 65535]) := ⟨_, rfl⟩
       replace H : (tumblerref01_subL.l0 k1 l0 l1 y332 ((1 - (((((((t330 + 65536) % 4294967296) - t331) % 4294967296) - x6_1) % 4294967296) / 65536)) % 4294967296) (wrap64 (x7_1 + 1))) = some r := by first | (rw [hy332]; with_reducible exact H) | (have H2_ := (Option.bind_some _ _).symm.trans H; rw [hy332]; with_reducible exact H2_) | (have H2_ := (Option.bind_some _ _).symm.trans H; with_reducible exact H2_) | with_reducible exact H | (rw [hy332]; exact H) | exact H
       have Ny332 := Aside0.mk hy332; clear hy332; have H' := Aside0.mk H; clear H
       go_wp2_with (first | ((with_reducible refine gate_callee (f := 126) rfl ?_); refine goesL_ (some 17) rfl rfl Tryd.func126 (by kernel_rfl) rfl #[.slice A0 l0.length c0, .int .i64 x7_1] rfl (by (try simp only [List.map_toArray, List.map_cons, List.map_nil]); first | done | rfl | (simp only [List.length_drop, List.length_take]; rfl)) ?_; (with_reducible refine (tumblerref01_limb.calls _ _ l0 x7_1 t330 _ ?side1 ?side2 A4.out).mono ?_); (case side1 => repeat (first | exact (Kd.C_below HR0.out HB.out) | (with_reducible refine Kd.C_alloc ?_ _) | (with_reducible refine Kd.C_drewN ?_ _) | (with_reducible refine Kd.C_drew ?_))); (case side2 => exact HC0.out); rintro e w' ⟨rfl, ⟨nd, rfl⟩⟩; refine ⟨_, rfl, ?_⟩) | ((with_reducible refine gate_callee (f := 126) rfl ?_); refine goesL_ (some 21) rfl rfl Tryd.func126 (by kernel_rfl) rfl #[.slice A1 l1.length c1, .int .i64 x7_1] rfl (by (try simp only [List.map_toArray, List.map_cons, List.map_nil]); first | done | rfl | (simp only [List.length_drop, List.length_take]; rfl)) ?_; (with_reducible refine (tumblerref01_limb.calls _ _ l1 x7_1 t331 _ ?side1 ?side2 A5.out).mono ?_); (case side1 => repeat (first | exact (Kd.C_below HR1.out bz) | (with_reducible refine Kd.C_alloc ?_ _) | (with_reducible refine Kd.C_drewN ?_ _) | (with_reducible refine Kd.C_drew ?_))); (case side2 => exact HC1.out); rintro e w' ⟨rfl, ⟨nd, rfl⟩⟩; refine ⟨_, rfl, ?_⟩) | ((with_reducible refine gate_builtin (b := .append) (xs := #[.tmp 25, .tmp 28]) rfl ?_); at_builtin; refine Kd.R_append (Kd.int .u32) (w0 := w) w.heap.size rfl (.tmp 25) (.tmp 28) 69 121 (.int .u32 0) 4 rfl Tryd.underlying69 info121 rfl (by decide) (by omega) u5 x5_1 ?pp _ (fun k_ => (w.heap.size ≤ k_)) (fun _ => False) rfl rfl ?aP (fun _ hk => hk.elim) ?aF ?aO ?aB ?aS ?aL ?_; (case aP => exact rfl); (case aB => exact bz); (case aF => exact (fun k_ hk => (Nat.le_trans (below_size bz) hk))); (case aO => exact (by (with_reducible repeat (first | apply Kd.R_alloc | apply Kd.R_drewN | apply Kd.R_drew)); exact HO_5.out)); (case aS => exact (below_size bz)); (case aL => have := LMc6.out; omega); intro v333 w7 ho hb hg hat; have ny_ := Ny332.out; simp only [Int.emod_add_emod, Int.add_emod_emod, Int.emod_sub_emod, Int.sub_emod_emod] at ny_ ho; rw [← ny_] at ho; have n0_ := am (hb); have n1_ := am (ho); clear HB; clear HO_5; have HB := n0_; have HO334 := n1_; clear n0_ n1_; clear ho hb hg hat))
       go_roundg k1
       case measure => have := HK1.out; omega
       case rel => exact ⟨(y332), ((1 - (((((((t330 + 65536) % 4294967296) - t331) % 4294967296) - x6_1) % 4294967296) / 65536)) % 4294967296), (wrap64 (x7_1 + 1)), (by first | rfl | (simp; done) | (simp [*]; done)), (by first | rfl | (simp; done) | (simp [*]; done)), H', ⟨by have := HK1.out; omega⟩, ⟨by (with_reducible repeat (first | apply Kd.R_alloc | apply Kd.R_drewN | apply Kd.R_drew)); exact HO334.out⟩, ⟨by repeat (first | (with_reducible first | exact HB.out | apply dA | apply dB | apply dC) | exact HB.out)⟩⟩
     · rw [if_neg c6] at H
       exact absurd H (by simp)
   · rw [if_neg c3] at H
     have c3b0 : decide (x7_1 < (l0.length : Int)) = false := decide_eq_false c3; clear c3
     replace H := Option.bind_eq_some_iff.mp H
     obtain ⟨t335, A80, H⟩ := H
     replace H : (some t335) = some r := H
     have A8 := Aside0.mk A80; clear A80
     obtain rfl := Option.some.inj H
     obtain ⟨Ao9, co9, eo9⟩ := Kd.R_slice HO_5.out
     subst eo9
     go_wp2_with (first | ((with_reducible refine gate_callee (f := 103) rfl ?_); refine goesL_ (some 34) rfl rfl Tryd.func103 (by kernel_rfl) rfl #[.slice Ao9 x5_1.length co9] rfl (by (try simp only [List.map_toArray, List.map_cons, List.map_nil]); first | done | rfl | (simp only [List.length_drop, List.length_take]; rfl)) ?_; (with_reducible refine (tumblerref01_trim.calls k1 (fun k_ => some k_ = (.slice Ao9 x5_1.length co9 : Value).ownBlock) _ _ x5_1 t335 _ ?side1 A8.out).mono ?_); (case side1 => exact Kd.R_V (Kd.R_tight rfl (HO_5.out))); rintro e w10 ⟨v336, rfl, ho0, hb⟩; refine ⟨_, rfl, ?_⟩; have n0_ := am (Kd.R_below (by (with_reducible repeat (first | apply Kd.R_alloc | apply Kd.R_drewN | apply Kd.R_drew)); exact HO_5.out) hb); have n1_ := am (Kd.V_lower (Kd.V_mono (ok' := fun k_ => (w.heap.size ≤ k_)) ho0 (fun k_ hk_ => Or.elim hk_ (fun hs_ => ((HO_5.out).1 k_ hs_.symm)) (fun hn_ => (Nat.le_trans (below_size bz) hn_)))) (below_size bz)); have n2_ := am (below_step bz hb); clear HO_5; clear HB; have HO_5 := n0_; have HO337 := n1_; have HB := n2_; clear n0_ n1_ n2_; (try clear hb); (try clear hb2); (try clear hk); (try clear hi); (try clear ho0)))
     go_ret
     exact ⟨_, by first | rfl | (simp [errW_none, errW_some] <;> rfl) | (simp [*, errW_none, errW_some] <;> rfl), by (with_reducible repeat (first | apply Kd.V_alloc | apply Kd.V_drewN | apply Kd.V_drew)); exact HO337.out, by repeat (first | (with_reducible first | exact HB.out | apply dA | apply dB | apply dC) | exact HB.out)⟩

end Go.Proofs.YtcfhmbhlibhlnaaDoor.P
