-- The row of the law tumblerlaw02_MicroWideBack and its card, printed by this session's own pp.py out of its Pure and the walk.
import Derived.Test.YtcfhmbhlibhlnaaDoorCards
import Derived.Test.YtcfhmbhlibhlnaaDoorTie
import Derived.Test.YtcfhmbhlibhlnaaDoorWorld
import Derived.Test.YtcfhmbhlibhlnaaDoorBulk
import Derived.Test.YtcfhmbhlibhlnaaDoorPxf19
import Derived.Test.YtcfhmbhlibhlnaaDoorPureMicroWideBack
import Derived.WalkKit
import Derived.ProofKit
import Derived.OpenShut
import Derived.ShutString
import Derived.ChangeOld
import Derived.Below
import Derived.SizedLaws
import Derived.Carry
import Derived.Deep.DeepHandedRow
import Derived.Test.YtcfhmbhlibhlnaaDoorMine
import Derived.Test.YtcfhmbhlibhlnaaDoorHead
namespace Go.Proofs.YtcfhmbhlibhlnaaDoor.microWideBack
open Go.ChangeShapes Go.WideShapes Go.ChangeAt Go.RowKit
open Go.ChangeMaps (open_string shut_string)
open Go.Proofs.YtcfhmbhlibhlnaaDoor.World (wf laidWorld)
theorem own : ownKnob Tryd.prog.godebug = none := by kernel_rfl
theorem laidOut : laidOutB Tryd.prog = true := by kernel_rfl
theorem laid_met (os : Os) : laidMet Tryd.prog Rows.microWideBackUptoRow.laid ((laidWorld os).forCall (fun _ _ => 0) ⟨#[], #[.agg #[.int .i64 0, .int .u64 0]], []⟩).memory :=
  laidMet_of_run' 8 (by kernel_rfl) (by kernel_rfl)
theorem reads (os : Os) {H : Type} (enc : TypeId × Value → H) : ∃ places, DataW.whole enc Tryd.prog ((laidWorld os).forCall (fun _ _ => 0) ⟨#[], #[.agg #[.int .i64 0, .int .u64 0]], []⟩).memory Tryd.f19.params.toList Rows.microWideBackSpec.vars false (#[.agg #[.int .i64 0, .int .u64 0]] : Array Value).toList 8 = some ([.agg [.lit (.int .i64 0), .lit (.int .u64 0)]], [], places) :=
  ⟨[], by kernel_rfl⟩
set_option maxRecDepth 100000 in
theorem lifted (os : Os) (started : os.Started) (H : Type) (enc : TypeId × Value → H) (F : Stop.Interp) :
    ReturnsInHanded {} Tryd.checked os 19 .any ((Rows.OpenSpec.upto Rows.microWideBackSpec).preRow enc Tryd.prog Tryd.f19 Rows.microWideBackUptoRow.domain false Rows.microWideBackUptoRow.laid) (((Rows.OpenSpec.upto Rows.microWideBackSpec).at F).post enc Tryd.prog Tryd.f19 false true false false) := by
  obtain ⟨places, hx⟩ := reads os enc
  refine returnsInHanded_of_row (C := Tryd.checked) (s := (Rows.OpenSpec.upto Rows.microWideBackSpec)) own started (by kernel_rfl) Tryd.func19
    (witness_row_at (enc := enc) (C := Tryd.checked) false (laidWorld os) #[.agg #[.int .i64 0, .int .u64 0]] rfl (by kernel_rfl) (by kernel_rfl) (by kernel_rfl)
      (OpenSpec.preRow_of_cond 8 hx (by kernel_rfl) (fun k hk => by cases hk; kernel_rfl) (by kernel_rfl) (laid_met os))) ?_
  intro W base args ds gs before hval0 hW _ hcond hsz0 hL hShape _
  have hT : Mine.WF W := wf hShape hL
  have hB0 : Rows.uptoBulkAll (ds ++ gs) ≤ 1048576 := bulks.bound (hcond _ rfl)
  have hval : ∀ (j : Nat) t v, Tryd.f19.params[j]? = some t → args[j]? = some v → Value.okWide Tryd.prog W .any base t v := hval0
  have hW' := hW
  obtain ⟨p, q, hA0, hV, rfl, hfz, hnd⟩ := hW
  have hA : DataW.TrodAll enc Tryd.prog W 0 (fun _ => true) true Tryd.f19.params.toList args.toList ds p := hA0
  rw [Tryd.params19] at hA hval
  obtain ⟨v0, vs0, d0, ds0, p0, q0, hargs, rfl, rfl, h0, r0⟩ := trodAll_cons hA
  obtain ⟨rfl, rfl, rfl⟩ := trodAll_nil r0
  obtain rfl : args = #[v0] := by cases args; simp_all
  obtain ⟨rfl, rfl⟩ := trodVars_none hV
  have b0 : Rows.uptoBulk d0 ≤ 1048576 := Nat.le_trans (bulks.part_le (by simp)) hB0
  have k0 := h0
  have lt0 : ∀ x ∈ p0, x.block < W.heap.size := by obtain ⟨m, hm⟩ := k0; exact DataW.trod_lt m _ _ _ hm
  obtain ⟨l0, ys0, m0, rfl, hl0, hd0, hy0, g0⟩ := Mine.open_fields Tryd.underlying24 (by kernel_rfl) (by kernel_rfl) (hval 0 24 v0 rfl rfl) h0
  have B0 : ∀ y ∈ ys0, Rows.uptoBulk y.1 ≤ 1048576 := fun y hy_ => by rw [hd0] at b0; exact Nat.le_trans (bulks.part_le (List.mem_map_of_mem hy_)) (Nat.le_trans (Nat.le_succ _) b0)
  obtain ⟨u0_0, e0_0, hu0_0, he0_0, t0_0⟩ := g0 0 _ rfl
  obtain ⟨a0_0, c0_0, x0_0, w0_0⟩ := DataW.trod_int Tryd.underlying2 t0_0
  injection c0_0 with c0_0 _
  subst c0_0
  obtain ⟨u0_1, e0_1, hu0_1, he0_1, t0_1⟩ := g0 1 _ rfl
  obtain ⟨a0_1, c0_1, x0_1, w0_1⟩ := DataW.trod_int Tryd.underlying22 t0_1
  injection c0_1 with c0_1 _
  subst c0_1
  obtain rfl := Mine.list_2 hl0 hu0_0 hu0_1
  clear hA0 hval0 hsz0
  refine (P.tumblerlaw02_MicroWideBack.walk Pure.MicroWideBack a0_0 a0_1 W ⟨hT⟩ w0_0 w0_1).mono fun e W' ⟨he, bel⟩ => ?_
  subst he
  exact ⟨_, rfl, _, _, _, [], _, [], hW', trodAll_mk1 (shut_bool Tryd.underlying4 _), (trodAll_cons_mk (Below.trod laidOut (by kernel_rfl) (of_decide_eq_true (by kernel_rfl)) k0 bel lt0) trodAll_mk0), rfl, bel.frame _, fun h => by cases h⟩
theorem closed : joinedFacts Tryd.prog 19 Tryd.f19 (Rows.OpenSpec.upto Rows.microWideBackSpec).bare Rows.microWideBackUptoRow = true := by
  unfold joinedFacts; rw [Head.may, Head.lf, Head.makeIs]; kernel_rfl
theorem over : Rows.MicroWideBackUptoSaid :=
  OpenClaim.holds_of_cond 19 Tryd.f19 rfl rfl rfl rfl rfl rfl rfl ⟨rfl, rfl, rfl, rfl, rfl⟩ rfl rfl rfl rfl rfl (by kernel_rfl) Tryd.func19 closed
    (of_decide_eq_true (by kernel_rfl)) (by unfold Func.isWrapper; first | (rw [if_pos (by decide +kernel)]; kernel_rfl) | (rw [if_neg (by decide +kernel)]; exact ⟨rfl, rfl⟩))
    (fun os started H enc _ F => by rw [OpenClaim.pre_eq_preRow]; exact lifted os started H enc F)
theorem plain (f : FuncId) (fn : Func) (hf : Tryd.pinned.checked.prog.funcNamed "tumbler/tumblerlaw02.MicroWideBack" = some f) (hfn : Tryd.pinned.checked.prog.funcs[f]? = some fn) :
    false = Tryd.pinned.checked.prog.looks [] ∧ ∀ (j : Nat) t, fn.params[j]? = some t → Tryd.pinned.checked.prog.wantsStandIn t = false := by
  obtain rfl : f = 19 := Option.some.inj ((show Tryd.prog.funcNamed "tumbler/tumblerlaw02.MicroWideBack" = some 19 by kernel_rfl).symm.trans hf) |>.symm
  obtain rfl : fn = Tryd.f19 := (Option.some.inj (Tryd.func19.symm.trans hfn)).symm
  refine ⟨by kernel_rfl, fun j t ht => ?_⟩
  rw [Tryd.params19] at ht
  have hm_ := Array.mem_of_getElem? ht
  simp only [List.mem_toArray, List.mem_cons, List.not_mem_nil, or_false] at hm_
  rcases hm_ with rfl
  · exact (show Tryd.prog.wantsStandIn 24 = false by kernel_rfl)
theorem card : Rows.MicroWideBackUptoCardSaid :=
  Claim7.holds_tied_plain_at .later [] _ _ _ _ over (fun _ h => by cases h) (by kernel_rfl) (fun _ h => by cases h) microWideBackUpto_row_tie rfl ⟨rfl, rfl⟩ Head.main_is rfl plain (by kernel_rfl)
#print axioms card
end Go.Proofs.YtcfhmbhlibhlnaaDoor.microWideBack
namespace Go.Proofs.YtcfhmbhlibhlnaaDoor
/-- The card, under a short name, for the claim. -/
theorem microWideBack_card : Rows.MicroWideBackUptoCardSaid := microWideBack.card
end Go.Proofs.YtcfhmbhlibhlnaaDoor
