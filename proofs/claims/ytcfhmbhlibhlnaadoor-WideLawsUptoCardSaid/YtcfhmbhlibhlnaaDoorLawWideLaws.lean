-- The row of the law tumblerlaw01_WideLaws and its card.
import Derived.Test.YtcfhmbhlibhlnaaDoorCards
import Derived.Test.YtcfhmbhlibhlnaaDoorTie
import Derived.Test.YtcfhmbhlibhlnaaDoorBulk
import Derived.Test.YtcfhmbhlibhlnaaDoorKRow0
import Derived.Test.YtcfhmbhlibhlnaaDoorKLawWideLaws
import Derived.WalkKit
import Derived.ProofKit
import Derived.OpenShut
import Derived.ShutString
import Derived.ChangeOld
import Derived.Below
import Derived.SizedLaws
import Derived.Carry
import Derived.Deep.DeepHandedRow
import Derived.Test.YtcfhmbhlibhlnaaDoorHead
namespace Go.Proofs.YtcfhmbhlibhlnaaDoor.wideLaws
open Go.ChangeShapes Go.WideShapes Go.ChangeAt Go.RowKit
open Go.ChangeMaps (open_string shut_string)
open Go.Proofs.YtcfhmbhlibhlnaaDoor.World (laidWorld)
theorem own : ownKnob Tryd.prog.godebug = none := by kernel_rfl
theorem laidOut : laidOutB Tryd.prog = true := by kernel_rfl
theorem laid_met (os : Os) : laidMet Tryd.prog Rows.wideLawsUptoRow.laid ((laidWorld os).forCall (fun _ _ => 0) ⟨#[], #[.agg #[.int .i64 0, .int .u64 0], .agg #[.int .i64 0, .int .u64 0], .agg #[.int .i64 0, .int .u64 0]], []⟩).memory :=
  laidMet_of_run' 8 (by kernel_rfl) (by kernel_rfl)
theorem reads (os : Os) {H : Type} (enc : TypeId × Value → H) : ∃ places, DataW.whole enc Tryd.prog ((laidWorld os).forCall (fun _ _ => 0) ⟨#[], #[.agg #[.int .i64 0, .int .u64 0], .agg #[.int .i64 0, .int .u64 0], .agg #[.int .i64 0, .int .u64 0]], []⟩).memory Tryd.f10.params.toList Rows.wideLawsSpec.vars false (#[.agg #[.int .i64 0, .int .u64 0], .agg #[.int .i64 0, .int .u64 0], .agg #[.int .i64 0, .int .u64 0]] : Array Value).toList 8 = some ([.agg [.lit (.int .i64 0), .lit (.int .u64 0)], .agg [.lit (.int .i64 0), .lit (.int .u64 0)], .agg [.lit (.int .i64 0), .lit (.int .u64 0)]], [], places) :=
  ⟨[], by kernel_rfl⟩
set_option maxRecDepth 100000 in
theorem lifted (os : Os) (started : os.Started) (H : Type) (enc : TypeId × Value → H) (F : Stop.Interp) :
    ReturnsInHanded {} Tryd.checked os 10 .any ((Rows.OpenSpec.upto Rows.wideLawsSpec).preRow enc Tryd.prog Tryd.f10 Rows.wideLawsUptoRow.domain false Rows.wideLawsUptoRow.laid) (((Rows.OpenSpec.upto Rows.wideLawsSpec).at F).post enc Tryd.prog Tryd.f10 false true false false) := by
  obtain ⟨places, hx⟩ := reads os enc
  refine returnsInHanded_of_row (C := Tryd.checked) (s := (Rows.OpenSpec.upto Rows.wideLawsSpec)) own started (by kernel_rfl) Tryd.func10
    (witness_row_at (enc := enc) (C := Tryd.checked) false (laidWorld os) #[.agg #[.int .i64 0, .int .u64 0], .agg #[.int .i64 0, .int .u64 0], .agg #[.int .i64 0, .int .u64 0]] rfl (by kernel_rfl) (by kernel_rfl) (by kernel_rfl)
      (OpenSpec.preRow_of_cond 8 hx (by kernel_rfl) (fun k hk => by cases hk; kernel_rfl) (by kernel_rfl) (laid_met os))) ?_
  intro W base args ds gs before hval0 hW _ hcond hsz0 hL hShape _
  have hB0 : Rows.uptoBulkAll (ds ++ gs) ≤ 1048576 := bulks.bound (hcond _ rfl)
  have hval : ∀ (j : Nat) t v, Tryd.f10.params[j]? = some t → args[j]? = some v → Value.okWide Tryd.prog W .any base t v := hval0
  have hW' := hW
  obtain ⟨p, q, hA0, hV, rfl, hfz, hnd⟩ := hW
  have hA : DataW.TrodAll enc Tryd.prog W 0 (fun _ => true) true Tryd.f10.params.toList args.toList ds p := hA0
  rw [Tryd.params10] at hA hval
  obtain ⟨v0, vs0, d0, ds0, p0, q0, hargs, rfl, rfl, h0, r0⟩ := trodAll_cons hA
  obtain ⟨v1, vs1, d1, ds1, p1, q1, rfl, rfl, rfl, h1, r1⟩ := trodAll_cons r0
  obtain ⟨v2, vs2, d2, ds2, p2, q2, rfl, rfl, rfl, h2, r2⟩ := trodAll_cons r1
  obtain ⟨rfl, rfl, rfl⟩ := trodAll_nil r2
  obtain rfl : args = #[v0, v1, v2] := by cases args; simp_all
  obtain ⟨rfl, rfl⟩ := trodVars_none hV
  have b0 : Rows.uptoBulk d0 ≤ 1048576 := Nat.le_trans (bulks.part_le (by simp)) hB0
  have b1 : Rows.uptoBulk d1 ≤ 1048576 := Nat.le_trans (bulks.part_le (by simp)) hB0
  have b2 : Rows.uptoBulk d2 ≤ 1048576 := Nat.le_trans (bulks.part_le (by simp)) hB0
  have k0 := h0
  have lt0 : ∀ x ∈ p0, x.block < W.heap.size := by obtain ⟨m, hm⟩ := k0; exact DataW.trod_lt m _ _ _ hm
  obtain ⟨l0, ys0, m0, rfl, hl0, hd0, hy0, g0⟩ := Mine.open_fields Tryd.underlying24 (by kernel_rfl) (by kernel_rfl) (hval 0 24 v0 rfl rfl) h0
  have B0 : ∀ y ∈ ys0, Rows.uptoBulk y.1 ≤ 1048576 := fun y hy_ => by rw [hd0] at b0; exact Nat.le_trans (bulks.part_le (List.mem_map_of_mem hy_)) (Nat.le_trans (Nat.le_succ _) b0)
  obtain ⟨u0_0, e0_0, hu0_0, he0_0, t0_0⟩ := g0 0 _ rfl
  obtain ⟨a0_0, c0_0, x0_0, w0_0⟩ := DataW.trod_int Tryd.underlying2 t0_0
  injection c0_0 with c0_0 _
  subst c0_0
  obtain ⟨u0_1, e0_1, hu0_1, he0_1, t0_1⟩ := g0 1 _ rfl
  obtain ⟨a0_1, c0_1, x0_1, w0_1⟩ := DataW.trod_int Tryd.underlying22 t0_1
  injection c0_1 with c0_1 _
  subst c0_1
  obtain rfl := Mine.list_2 hl0 hu0_0 hu0_1
  have k1 := h1
  have lt1 : ∀ x ∈ p1, x.block < W.heap.size := by obtain ⟨m, hm⟩ := k1; exact DataW.trod_lt m _ _ _ hm
  obtain ⟨l1, ys1, m1, rfl, hl1, hd1, hy1, g1⟩ := Mine.open_fields Tryd.underlying24 (by kernel_rfl) (by kernel_rfl) (hval 1 24 v1 rfl rfl) h1
  have B1 : ∀ y ∈ ys1, Rows.uptoBulk y.1 ≤ 1048576 := fun y hy_ => by rw [hd1] at b1; exact Nat.le_trans (bulks.part_le (List.mem_map_of_mem hy_)) (Nat.le_trans (Nat.le_succ _) b1)
  obtain ⟨u1_0, e1_0, hu1_0, he1_0, t1_0⟩ := g1 0 _ rfl
  obtain ⟨a1_0, c1_0, x1_0, w1_0⟩ := DataW.trod_int Tryd.underlying2 t1_0
  injection c1_0 with c1_0 _
  subst c1_0
  obtain ⟨u1_1, e1_1, hu1_1, he1_1, t1_1⟩ := g1 1 _ rfl
  obtain ⟨a1_1, c1_1, x1_1, w1_1⟩ := DataW.trod_int Tryd.underlying22 t1_1
  injection c1_1 with c1_1 _
  subst c1_1
  obtain rfl := Mine.list_2 hl1 hu1_0 hu1_1
  have k2 := h2
  have lt2 : ∀ x ∈ p2, x.block < W.heap.size := by obtain ⟨m, hm⟩ := k2; exact DataW.trod_lt m _ _ _ hm
  obtain ⟨l2, ys2, m2, rfl, hl2, hd2, hy2, g2⟩ := Mine.open_fields Tryd.underlying24 (by kernel_rfl) (by kernel_rfl) (hval 2 24 v2 rfl rfl) h2
  have B2 : ∀ y ∈ ys2, Rows.uptoBulk y.1 ≤ 1048576 := fun y hy_ => by rw [hd2] at b2; exact Nat.le_trans (bulks.part_le (List.mem_map_of_mem hy_)) (Nat.le_trans (Nat.le_succ _) b2)
  obtain ⟨u2_0, e2_0, hu2_0, he2_0, t2_0⟩ := g2 0 _ rfl
  obtain ⟨a2_0, c2_0, x2_0, w2_0⟩ := DataW.trod_int Tryd.underlying2 t2_0
  injection c2_0 with c2_0 _
  subst c2_0
  obtain ⟨u2_1, e2_1, hu2_1, he2_1, t2_1⟩ := g2 1 _ rfl
  obtain ⟨a2_1, c2_1, x2_1, w2_1⟩ := DataW.trod_int Tryd.underlying22 t2_1
  injection c2_1 with c2_1 _
  subst c2_1
  obtain rfl := Mine.list_2 hl2 hu2_0 hu2_1
  clear hA0 hval0 hsz0
  refine (show Calls Tryd.prog 10 #[.agg #[.int .i64 a0_0, .int .u64 a0_1], .agg #[.int .i64 a1_0, .int .u64 a1_1], .agg #[.int .i64 a2_0, .int .u64 a2_1]] W (fun e w' => e = .returned (.bool true) ∧ Below W.heap.size W w') from by
    have r0 := wv_of (Mine.wf_i64 w0_0) (Mine.wf_u64 w0_1)
    have r1 := wv_of (Mine.wf_i64 w1_0) (Mine.wf_u64 w1_1)
    have r2 := wv_of (Mine.wf_i64 w2_0) (Mine.wf_u64 w2_1)
    rw [r0.1, r1.1, r2.1]
    exact (Go.Proofs.YtcfhmbhlibhlnaaDoor.wideLaws (W0 := W) _ _ _ r0.2 r1.2 r2.2).calls).mono fun e W' ⟨he, bel⟩ => ?_
  subst he
  exact ⟨_, rfl, _, _, _, [], _, [], hW', trodAll_mk1 (shut_bool Tryd.underlying4 _), (trodAll_cons_mk (Below.trod laidOut (by kernel_rfl) (of_decide_eq_true (by kernel_rfl)) k0 bel lt0) (trodAll_cons_mk (Below.trod laidOut (by kernel_rfl) (of_decide_eq_true (by kernel_rfl)) k1 bel lt1) (trodAll_cons_mk (Below.trod laidOut (by kernel_rfl) (of_decide_eq_true (by kernel_rfl)) k2 bel lt2) trodAll_mk0))), rfl, bel.frame _, fun h => by cases h⟩
theorem closed : joinedFacts Tryd.prog 10 Tryd.f10 (Rows.OpenSpec.upto Rows.wideLawsSpec).bare Rows.wideLawsUptoRow = true := by
  unfold joinedFacts; rw [Head.may, Head.lf, Head.makeIs]; kernel_rfl
theorem over : Rows.WideLawsUptoSaid :=
  OpenClaim.holds_of_cond 10 Tryd.f10 rfl rfl rfl rfl rfl rfl rfl ⟨rfl, rfl, rfl, rfl, rfl⟩ rfl rfl rfl rfl rfl (by kernel_rfl) Tryd.func10 closed
    (of_decide_eq_true (by kernel_rfl)) (by unfold Func.isWrapper; first | (rw [if_pos (by decide +kernel)]; kernel_rfl) | (rw [if_neg (by decide +kernel)]; exact ⟨rfl, rfl⟩))
    (fun os started H enc _ F => by rw [OpenClaim.pre_eq_preRow]; exact lifted os started H enc F)
theorem plain (f : FuncId) (fn : Func) (hf : Tryd.pinned.checked.prog.funcNamed "tumbler/tumblerlaw01.WideLaws" = some f) (hfn : Tryd.pinned.checked.prog.funcs[f]? = some fn) :
    false = Tryd.pinned.checked.prog.looks [] ∧ ∀ (j : Nat) t, fn.params[j]? = some t → Tryd.pinned.checked.prog.wantsStandIn t = false := by
  obtain rfl : f = 10 := Option.some.inj ((show Tryd.prog.funcNamed "tumbler/tumblerlaw01.WideLaws" = some 10 by kernel_rfl).symm.trans hf) |>.symm
  obtain rfl : fn = Tryd.f10 := (Option.some.inj (Tryd.func10.symm.trans hfn)).symm
  refine ⟨by kernel_rfl, fun j t ht => ?_⟩
  rw [Tryd.params10] at ht
  have hm_ := Array.mem_of_getElem? ht
  simp only [List.mem_toArray, List.mem_cons, List.not_mem_nil, or_false] at hm_
  rcases hm_ with rfl | rfl | rfl
  · exact (show Tryd.prog.wantsStandIn 24 = false by kernel_rfl)
  · exact (show Tryd.prog.wantsStandIn 24 = false by kernel_rfl)
  · exact (show Tryd.prog.wantsStandIn 24 = false by kernel_rfl)
theorem card : Rows.WideLawsUptoCardSaid :=
  Claim7.holds_tied_plain_at .later [] _ _ _ _ over (fun _ h => by cases h) (by kernel_rfl) (fun _ h => by cases h) wideLawsUpto_row_tie rfl ⟨rfl, rfl⟩ Head.main_is rfl plain (by kernel_rfl)
#print axioms card
end Go.Proofs.YtcfhmbhlibhlnaaDoor.wideLaws
namespace Go.Proofs.YtcfhmbhlibhlnaaDoor
/-- The card, under a short name, for the claim. -/
theorem wideLaws_card : Rows.WideLawsUptoCardSaid := wideLaws.card
end Go.Proofs.YtcfhmbhlibhlnaaDoor
