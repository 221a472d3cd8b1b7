-- The row of the law LineBack and its card.
import Derived.Test.YtioahngbfdfcaaaGreatDoorCards
import Derived.Test.YtioahngbfdfcaaaGreatDoorTie
import Derived.Test.YtioahngbfdfcaaaGreatDoorBulk
import Derived.Test.YtioahngbfdfcaaaGreatDoorKRow0
import Derived.Test.YtioahngbfdfcaaaGreatDoorKLy
import Derived.Test.YtioahngbfdfcaaaGreatDoorKRow1
import Derived.WalkKit
import Derived.ProofKit
import Derived.OpenShut
import Derived.ShutString
import Derived.ChangeOld
import Derived.Below
import Derived.SizedLaws
import Derived.Carry
import Derived.Deep.DeepHandedRow
import Derived.Test.YtioahngbfdfcaaaGreatDoorHead
set_option linter.unusedSimpArgs false
namespace Go.Proofs.YtioahngbfdfcaaaGreatDoor.lineBack
open Go.ChangeShapes Go.WideShapes Go.ChangeAt Go.RowKit
open Go.ChangeMaps (open_string shut_string)
open Go.Proofs.YtioahngbfdfcaaaGreatDoor.World (laidWorld)
theorem own : ownKnob Tryz.prog.godebug = none := by kernel_rfl
theorem laidOut : laidOutB Tryz.prog = true := by kernel_rfl
theorem laid_met (os : Os) : laidMet Tryz.prog Rows.lineBackUptoRow.laid ((laidWorld os).forCall (fun _ _ => 0) ⟨#[], #[.agg #[.string ByteArray.empty, .int .i64 0, .int .i64 0, .bool false, .string ByteArray.empty, .int .i64 0, .bool false, .int .i64 0]], []⟩).memory :=
  laidMet_of_run' 8 (by kernel_rfl) (by kernel_rfl)
theorem reads (os : Os) {H : Type} (enc : TypeId × Value → H) : ∃ places, DataW.whole enc Tryz.prog ((laidWorld os).forCall (fun _ _ => 0) ⟨#[], #[.agg #[.string ByteArray.empty, .int .i64 0, .int .i64 0, .bool false, .string ByteArray.empty, .int .i64 0, .bool false, .int .i64 0]], []⟩).memory Tryz.f3.params.toList Rows.lineBackSpec.vars false (#[.agg #[.string ByteArray.empty, .int .i64 0, .int .i64 0, .bool false, .string ByteArray.empty, .int .i64 0, .bool false, .int .i64 0]] : Array Value).toList 8 = some ([.agg [.lit (.string []), .lit (.int .i64 0), .lit (.int .i64 0), .lit (.bool false), .lit (.string []), .lit (.int .i64 0), .lit (.bool false), .lit (.int .i64 0)]], [], places) :=
  ⟨[], by kernel_rfl⟩
set_option maxRecDepth 100000 in
theorem lifted (os : Os) (started : os.Started) (H : Type) (enc : TypeId × Value → H) (F : Stop.Interp) :
    ReturnsInHanded {} Tryz.checked os 3 .any ((Rows.OpenSpec.upto Rows.lineBackSpec).preRow enc Tryz.prog Tryz.f3 Rows.lineBackUptoRow.domain false Rows.lineBackUptoRow.laid) (((Rows.OpenSpec.upto Rows.lineBackSpec).at F).post enc Tryz.prog Tryz.f3 false true false false) := by
  obtain ⟨places, hx⟩ := reads os enc
  refine returnsInHanded_of_row (C := Tryz.checked) (s := (Rows.OpenSpec.upto Rows.lineBackSpec)) own started (by kernel_rfl) Tryz.func3
    (witness_row_at (enc := enc) (C := Tryz.checked) false (laidWorld os) #[.agg #[.string ByteArray.empty, .int .i64 0, .int .i64 0, .bool false, .string ByteArray.empty, .int .i64 0, .bool false, .int .i64 0]] rfl (by kernel_rfl) (by kernel_rfl) (by kernel_rfl)
      (OpenSpec.preRow_of_cond 8 hx (by kernel_rfl) (fun k hk => by cases hk; kernel_rfl) (by kernel_rfl) (laid_met os))) ?_
  intro W base args ds gs before hval0 hW _ hcond hsz0 hL hShape _
  have hB0 : Rows.uptoBulkAll (ds ++ gs) ≤ 1048576 := bulks.bound (hcond _ rfl)
  have hval : ∀ (j : Nat) t v, Tryz.f3.params[j]? = some t → args[j]? = some v → Value.okWide Tryz.prog W .any base t v := hval0
  have hW' := hW
  obtain ⟨p, q, hA0, hV, rfl, hfz, hnd⟩ := hW
  have hA : DataW.TrodAll enc Tryz.prog W 0 (fun _ => true) true Tryz.f3.params.toList args.toList ds p := hA0
  rw [Tryz.params3] at hA hval
  obtain ⟨v0, vs0, d0, ds0, p0, q0, hargs, rfl, rfl, h0, r0⟩ := trodAll_cons hA
  obtain ⟨rfl, rfl, rfl⟩ := trodAll_nil r0
  obtain rfl : args = #[v0] := by cases args; simp_all
  obtain ⟨rfl, rfl⟩ := trodVars_none hV
  have b0 : Rows.uptoBulk d0 ≤ 1048576 := Nat.le_trans (bulks.part_le (by simp)) hB0
  have k0 := h0
  have lt0 : ∀ x ∈ p0, x.block < W.heap.size := by obtain ⟨m, hm⟩ := k0; exact DataW.trod_lt m _ _ _ hm
  obtain ⟨l0, ys0, m0, rfl, hl0, hd0, hy0, g0⟩ := Mine.open_fields Tryz.underlying24 (by kernel_rfl) (by kernel_rfl) (hval 0 24 v0 rfl rfl) h0
  have B0 : ∀ y ∈ ys0, Rows.uptoBulk y.1 ≤ 1048576 := fun y hy_ => by rw [hd0] at b0; exact Nat.le_trans (bulks.part_le (List.mem_map_of_mem hy_)) (Nat.le_trans (Nat.le_succ _) b0)
  obtain ⟨u0_0, e0_0, hu0_0, he0_0, t0_0⟩ := g0 0 _ rfl
  obtain ⟨a0_0, c0_0, x0_0, _⟩ := DataW.trod_string Tryz.underlying9 t0_0
  injection c0_0 with c0_0 _
  subst c0_0
  have hb_ := B0 _ (List.mem_of_getElem? he0_0)
  rw [x0_0] at hb_
  have hb_2 := (bulks.string_eq (H := H) _) ▸ hb_
  clear hb_
  obtain ⟨s0_0, rfl, z0_0⟩ := World.text_of a0_0
  have n0_0 : s0_0.length ≤ 1048576 := by
    have hb_3 : s0_0.length + 1 ≤ 1048576 := hb_2
    omega
  clear hb_2
  obtain ⟨u0_1, e0_1, hu0_1, he0_1, t0_1⟩ := g0 1 _ rfl
  obtain ⟨a0_1, c0_1, x0_1, w0_1⟩ := DataW.trod_int Tryz.underlying22 t0_1
  injection c0_1 with c0_1 _
  subst c0_1
  obtain ⟨u0_2, e0_2, hu0_2, he0_2, t0_2⟩ := g0 2 _ rfl
  obtain ⟨a0_2, c0_2, x0_2, w0_2⟩ := DataW.trod_int Tryz.underlying2 t0_2
  injection c0_2 with c0_2 _
  subst c0_2
  obtain ⟨u0_3, e0_3, hu0_3, he0_3, t0_3⟩ := g0 3 _ rfl
  obtain ⟨a0_3, c0_3, x0_3⟩ := DataW.trod_bool Tryz.underlying4 t0_3
  injection c0_3 with c0_3 _
  subst c0_3
  obtain ⟨u0_4, e0_4, hu0_4, he0_4, t0_4⟩ := g0 4 _ rfl
  obtain ⟨a0_4, c0_4, x0_4, _⟩ := DataW.trod_string Tryz.underlying9 t0_4
  injection c0_4 with c0_4 _
  subst c0_4
  have hb_ := B0 _ (List.mem_of_getElem? he0_4)
  rw [x0_4] at hb_
  have hb_2 := (bulks.string_eq (H := H) _) ▸ hb_
  clear hb_
  obtain ⟨s0_4, rfl, z0_4⟩ := World.text_of a0_4
  have n0_4 : s0_4.length ≤ 1048576 := by
    have hb_3 : s0_4.length + 1 ≤ 1048576 := hb_2
    omega
  clear hb_2
  obtain ⟨u0_5, e0_5, hu0_5, he0_5, t0_5⟩ := g0 5 _ rfl
  obtain ⟨a0_5, c0_5, x0_5, w0_5⟩ := DataW.trod_int Tryz.underlying2 t0_5
  injection c0_5 with c0_5 _
  subst c0_5
  obtain ⟨u0_6, e0_6, hu0_6, he0_6, t0_6⟩ := g0 6 _ rfl
  obtain ⟨a0_6, c0_6, x0_6⟩ := DataW.trod_bool Tryz.underlying4 t0_6
  injection c0_6 with c0_6 _
  subst c0_6
  obtain ⟨u0_7, e0_7, hu0_7, he0_7, t0_7⟩ := g0 7 _ rfl
  obtain ⟨a0_7, c0_7, x0_7, w0_7⟩ := DataW.trod_int Tryz.underlying2 t0_7
  injection c0_7 with c0_7 _
  subst c0_7
  obtain rfl := Mine.list_8 hl0 hu0_0 hu0_1 hu0_2 hu0_3 hu0_4 hu0_5 hu0_6 hu0_7
  clear hA0 hval0 hsz0
  refine (show Calls Tryz.prog 3 #[.agg #[.string (bs s0_0), .int .i64 a0_1, .int .i64 a0_2, .bool a0_3, .string (bs s0_4), .int .i64 a0_5, .bool a0_6, .int .i64 a0_7]] W (fun e w' => e = .returned (.bool true) ∧ Below W.heap.size W w') from by
    have hT : WF W := World.wf hShape (show laidMet Tryz.prog Rows.lineBackUptoRow.laid W from hL) (by unfold Rows.lineBackUptoRow; simp) (by unfold Rows.lineBackUptoRow; simp)
    have hP : Tens W := World.tens (show laidMet Tryz.prog Rows.lineBackUptoRow.laid W from hL)
    exact (Go.Proofs.YtioahngbfdfcaaaGreatDoor.lineBack (W0 := W) hT hP s0_0 a0_1 a0_2 a0_3 s0_4 a0_5 a0_6 a0_7 n0_0 (Mine.wf_i64 w0_1) (Mine.wf_i64 w0_2) n0_4 (Mine.wf_i64 w0_5) (Mine.wf_i64 w0_7)).calls (by intro v hv; simp only [List.mem_cons, List.not_mem_nil, or_false] at hv; rcases hv with rfl <;> first | exact .string _ | exact .int _ _ | exact .agg (by simp [Go.Den.AF.string, Go.Den.AF.int, Go.Den.AF.bool])) (.bool _)).mono fun e W' ⟨he, bel⟩ => ?_
  subst he
  exact ⟨_, rfl, _, _, _, [], _, [], hW', trodAll_mk1 (shut_bool Tryz.underlying4 _), (trodAll_cons_mk (Below.trod laidOut (by kernel_rfl) (of_decide_eq_true (by kernel_rfl)) k0 bel lt0) trodAll_mk0), rfl, bel.frame _, fun h => by cases h⟩
theorem closed : joinedFacts Tryz.prog 3 Tryz.f3 (Rows.OpenSpec.upto Rows.lineBackSpec).bare Rows.lineBackUptoRow = true := by
  unfold joinedFacts; rw [Head.may, Head.lf, Head.makeIs]; kernel_rfl
theorem over : Rows.LineBackUptoSaid :=
  OpenClaim.holds_of_cond 3 Tryz.f3 rfl rfl rfl rfl rfl rfl rfl ⟨rfl, rfl, rfl, rfl, rfl⟩ rfl rfl rfl rfl rfl (by kernel_rfl) Tryz.func3 closed
    (of_decide_eq_true (by kernel_rfl)) (by unfold Func.isWrapper; first | (rw [if_pos (by decide +kernel)]; kernel_rfl) | (rw [if_neg (by decide +kernel)]; exact ⟨rfl, rfl⟩))
    (fun os started H enc _ F => by rw [OpenClaim.pre_eq_preRow]; exact lifted os started H enc F)
theorem plain (f : FuncId) (fn : Func) (hf : Tryz.pinned.checked.prog.funcNamed "tumbler/tumblerlaw04.LineBack" = some f) (hfn : Tryz.pinned.checked.prog.funcs[f]? = some fn) :
    false = Tryz.pinned.checked.prog.looks [] ∧ ∀ (j : Nat) t, fn.params[j]? = some t → Tryz.pinned.checked.prog.wantsStandIn t = false := by
  obtain rfl : f = 3 := Option.some.inj ((show Tryz.prog.funcNamed "tumbler/tumblerlaw04.LineBack" = some 3 by kernel_rfl).symm.trans hf) |>.symm
  obtain rfl : fn = Tryz.f3 := (Option.some.inj (Tryz.func3.symm.trans hfn)).symm
  refine ⟨by kernel_rfl, fun j t ht => ?_⟩
  rw [Tryz.params3] at ht
  have hm_ := Array.mem_of_getElem? ht
  simp only [List.mem_toArray, List.mem_cons, List.not_mem_nil, or_false] at hm_
  rcases hm_ with rfl
  · exact (show Tryz.prog.wantsStandIn 24 = false by kernel_rfl)
theorem card : Rows.LineBackUptoCardSaid :=
  Claim7.holds_tied_plain_at .later [] _ _ _ _ over (fun _ h => by cases h) (by kernel_rfl) (fun _ h => by cases h) lineBackUpto_row_tie rfl ⟨rfl, rfl⟩ Head.main_is rfl plain (by kernel_rfl)
end Go.Proofs.YtioahngbfdfcaaaGreatDoor.lineBack
namespace Go.Proofs.YtioahngbfdfcaaaGreatDoor
/-- The card, under a short name, for the claim. -/
theorem lineBack_card : Rows.LineBackUptoCardSaid := lineBack.card
end Go.Proofs.YtioahngbfdfcaaaGreatDoor
