-- The row of the law FlushSets and its card.
import Derived.Test.YtkocmbgpiidkdaaGreatDoorCards
import Derived.Test.YtkocmbgpiidkdaaGreatDoorTie
import Derived.Test.YtkocmbgpiidkdaaGreatDoorBulk
import Derived.Test.YtkocmbgpiidkdaaGreatDoorKRow0
import Derived.Test.YtkocmbgpiidkdaaGreatDoorKGg
import Derived.Test.YtkocmbgpiidkdaaGreatDoorKRw3
import Derived.WalkKit
import Derived.ProofKit
import Derived.OpenShut
import Derived.ShutString
import Derived.ChangeOld
import Derived.Below
import Derived.SizedLaws
import Derived.Carry
import Derived.Deep.DeepHandedRow
import Derived.Test.YtkocmbgpiidkdaaGreatDoorHead
set_option linter.unusedSimpArgs false
namespace Go.Proofs.YtkocmbgpiidkdaaGreatDoor.flushSets
open Go.ChangeShapes Go.WideShapes Go.ChangeAt Go.RowKit
open Go.ChangeMaps (open_string shut_string)
open Go.Proofs.YtkocmbgpiidkdaaGreatDoor.World (laidWorld)
theorem own : ownKnob Tryz.prog.godebug = none := by kernel_rfl
theorem laidOut : laidOutB Tryz.prog = true := by kernel_rfl
theorem laid_met (os : Os) : laidMet Tryz.prog Rows.flushSetsUptoRow.laid ((laidWorld os).forCall (fun _ _ => 0) ⟨#[], #[.slice none 0 0, .agg #[.int .i64 0, .int .u64 0]], []⟩).memory :=
  laidMet_of_run' 8 (by kernel_rfl) (by kernel_rfl)
theorem reads (os : Os) {H : Type} (enc : TypeId × Value → H) : ∃ places, DataW.whole enc Tryz.prog ((laidWorld os).forCall (fun _ _ => 0) ⟨#[], #[.slice none 0 0, .agg #[.int .i64 0, .int .u64 0]], []⟩).memory Tryz.f9.params.toList Rows.flushSetsSpec.vars false (#[.slice none 0 0, .agg #[.int .i64 0, .int .u64 0]] : Array Value).toList 8 = some ([.nil, .agg [.lit (.int .i64 0), .lit (.int .u64 0)]], [], places) :=
  ⟨[], by kernel_rfl⟩
set_option maxRecDepth 100000 in
theorem lifted (os : Os) (started : os.Started) (H : Type) (enc : TypeId × Value → H) (F : Stop.Interp) :
    ReturnsInHanded {} Tryz.checked os 9 .any ((Rows.OpenSpec.upto Rows.flushSetsSpec).preRow enc Tryz.prog Tryz.f9 Rows.flushSetsUptoRow.domain false Rows.flushSetsUptoRow.laid) (((Rows.OpenSpec.upto Rows.flushSetsSpec).at F).post enc Tryz.prog Tryz.f9 false true false false) := by
  obtain ⟨places, hx⟩ := reads os enc
  refine returnsInHanded_of_row (C := Tryz.checked) (s := (Rows.OpenSpec.upto Rows.flushSetsSpec)) own started (by kernel_rfl) Tryz.func9
    (witness_row_at (enc := enc) (C := Tryz.checked) false (laidWorld os) #[.slice none 0 0, .agg #[.int .i64 0, .int .u64 0]] rfl (by kernel_rfl) (by kernel_rfl) (by kernel_rfl)
      (OpenSpec.preRow_of_cond 8 hx (by kernel_rfl) (fun k hk => by cases hk; kernel_rfl) (by kernel_rfl) (laid_met os))) ?_
  intro W base args ds gs before hval0 hW _ hcond hsz0 hL hShape _
  have hB0 : Rows.uptoBulkAll (ds ++ gs) ≤ 1048576 := bulks.bound (hcond _ rfl)
  have hval : ∀ (j : Nat) t v, Tryz.f9.params[j]? = some t → args[j]? = some v → Value.okWide Tryz.prog W .any base t v := hval0
  have hW' := hW
  obtain ⟨p, q, hA0, hV, rfl, hfz, hnd⟩ := hW
  have hA : DataW.TrodAll enc Tryz.prog W 0 (fun _ => true) true Tryz.f9.params.toList args.toList ds p := hA0
  rw [Tryz.params9] at hA hval
  obtain ⟨v0, vs0, d0, ds0, p0, q0, hargs, rfl, rfl, h0, r0⟩ := trodAll_cons hA
  obtain ⟨v1, vs1, d1, ds1, p1, q1, rfl, rfl, rfl, h1, r1⟩ := trodAll_cons r0
  obtain ⟨rfl, rfl, rfl⟩ := trodAll_nil r1
  obtain rfl : args = #[v0, v1] := by cases args; simp_all
  obtain ⟨rfl, rfl⟩ := trodVars_none hV
  have b0 : Rows.uptoBulk d0 ≤ 1048576 := Nat.le_trans (bulks.part_le (by simp)) hB0
  have b1 : Rows.uptoBulk d1 ≤ 1048576 := Nat.le_trans (bulks.part_le (by simp)) hB0
  have k0 := h0
  have lt0 : ∀ x ∈ p0, x.block < W.heap.size := by obtain ⟨m, hm⟩ := k0; exact DataW.trod_lt m _ _ _ hm
  obtain ⟨a0, len0, cap0, rfl⟩ := okWide_slice Tryz.underlying51 (hval 0 51 v0 rfl rfl)
  obtain ⟨fuel0, hf0⟩ := h0
  obtain ⟨us0, V0, S0⟩ := row_strs Tryz.underlying51 Tryz.underlying9 (by kernel_rfl) hf0
  have n0 : us0.length ≤ 1048576 := by
    rcases S0 with h | ⟨el, sp, h1, h2⟩
    · omega
    · rw [show d0 = _ from h1] at b0; have := bulks.slice_le el sp; omega
  have k1 := h1
  have lt1 : ∀ x ∈ p1, x.block < W.heap.size := by obtain ⟨m, hm⟩ := k1; exact DataW.trod_lt m _ _ _ hm
  obtain ⟨l1, ys1, m1, rfl, hl1, hd1, hy1, g1⟩ := Mine.open_fields Tryz.underlying41 (by kernel_rfl) (by kernel_rfl) (hval 1 41 v1 rfl rfl) h1
  obtain ⟨u1_0, e1_0, hu1_0, he1_0, t1_0⟩ := g1 0 _ rfl
  obtain ⟨a1_0, c1_0, x1_0, w1_0⟩ := DataW.trod_int Tryz.underlying2 t1_0
  injection c1_0 with c1_0 _
  subst c1_0
  obtain ⟨u1_1, e1_1, hu1_1, he1_1, t1_1⟩ := g1 1 _ rfl
  obtain ⟨a1_1, c1_1, x1_1, w1_1⟩ := DataW.trod_int Tryz.underlying39 t1_1
  injection c1_1 with c1_1 _
  subst c1_1
  obtain rfl := Mine.list_2 hl1 hu1_0 hu1_1
  clear hA0 hval0 hsz0
  refine (show Calls Tryz.prog 9 #[.slice a0 len0 cap0, .agg #[.int .i64 a1_0, .int .u64 a1_1]] W (fun e w' => e = .returned (.bool true) ∧ Below W.heap.size W w') from by
    have r1 := wv_of (Mine.wf_i64 w1_0) (Mine.wf_u64 w1_1)
    rw [r1.1]
    have hT : WF W := World.wf hShape (show laidMet Tryz.prog Rows.flushSetsUptoRow.laid W from hL) (by unfold Rows.flushSetsUptoRow; simp) (by unfold Rows.flushSetsUptoRow; simp)
    exact (Go.Proofs.YtkocmbgpiidkdaaGreatDoor.flushSets (W0 := W) hT us0 _ n0 r1.2).calls_at (rel_W W) (.cons V0 (.cons ((wv_af _).rel _) (.nil _))) (.bool _)).mono fun e W' ⟨he, bel⟩ => ?_
  subst he
  exact ⟨_, rfl, _, _, _, [], _, [], hW', trodAll_mk1 (shut_bool Tryz.underlying4 _), (trodAll_cons_mk (Below.trod laidOut (by kernel_rfl) (of_decide_eq_true (by kernel_rfl)) k0 bel lt0) (trodAll_cons_mk (Below.trod laidOut (by kernel_rfl) (of_decide_eq_true (by kernel_rfl)) k1 bel lt1) trodAll_mk0)), rfl, bel.frame _, fun h => by cases h⟩
theorem closed : joinedFacts Tryz.prog 9 Tryz.f9 (Rows.OpenSpec.upto Rows.flushSetsSpec).bare Rows.flushSetsUptoRow = true := by
  unfold joinedFacts; rw [Head.may, Head.lf, Head.makeIs]; kernel_rfl
theorem over : Rows.FlushSetsUptoSaid :=
  OpenClaim.holds_of_cond 9 Tryz.f9 rfl rfl rfl rfl rfl rfl rfl ⟨rfl, rfl, rfl, rfl, rfl⟩ rfl rfl rfl rfl rfl (by kernel_rfl) Tryz.func9 closed
    (of_decide_eq_true (by kernel_rfl)) (by unfold Func.isWrapper; first | (rw [if_pos (by decide +kernel)]; kernel_rfl) | (rw [if_neg (by decide +kernel)]; exact ⟨rfl, rfl⟩))
    (fun os started H enc _ F => by rw [OpenClaim.pre_eq_preRow]; exact lifted os started H enc F)
theorem plain (f : FuncId) (fn : Func) (hf : Tryz.pinned.checked.prog.funcNamed "tumbler/tumblerlaw10.FlushSets" = some f) (hfn : Tryz.pinned.checked.prog.funcs[f]? = some fn) :
    false = Tryz.pinned.checked.prog.looks [] ∧ ∀ (j : Nat) t, fn.params[j]? = some t → Tryz.pinned.checked.prog.wantsStandIn t = false := by
  obtain rfl : f = 9 := Option.some.inj ((show Tryz.prog.funcNamed "tumbler/tumblerlaw10.FlushSets" = some 9 by kernel_rfl).symm.trans hf) |>.symm
  obtain rfl : fn = Tryz.f9 := (Option.some.inj (Tryz.func9.symm.trans hfn)).symm
  refine ⟨by kernel_rfl, fun j t ht => ?_⟩
  rw [Tryz.params9] at ht
  have hm_ := Array.mem_of_getElem? ht
  simp only [List.mem_toArray, List.mem_cons, List.not_mem_nil, or_false] at hm_
  rcases hm_ with rfl | rfl
  · exact (show Tryz.prog.wantsStandIn 51 = false by kernel_rfl)
  · exact (show Tryz.prog.wantsStandIn 41 = false by kernel_rfl)
theorem card : Rows.FlushSetsUptoCardSaid :=
  Claim7.holds_tied_plain_at .later [] _ _ _ _ over (fun _ h => by cases h) (by kernel_rfl) (fun _ h => by cases h) flushSetsUpto_row_tie rfl ⟨rfl, rfl⟩ Head.main_is rfl plain (by kernel_rfl)
end Go.Proofs.YtkocmbgpiidkdaaGreatDoor.flushSets
namespace Go.Proofs.YtkocmbgpiidkdaaGreatDoor
/-- The card, under a short name, for the claim. -/
theorem flushSets_card : Rows.FlushSetsUptoCardSaid := flushSets.card
end Go.Proofs.YtkocmbgpiidkdaaGreatDoor
