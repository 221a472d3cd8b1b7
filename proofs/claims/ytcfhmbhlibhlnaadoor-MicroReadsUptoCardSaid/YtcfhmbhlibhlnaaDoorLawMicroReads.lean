-- The row of the law tumblerlaw02_MicroReads and its card, printed by this session's own pp.py out of its Pure and the walk.
import Derived.Test.YtcfhmbhlibhlnaaDoorCards
import Derived.Test.YtcfhmbhlibhlnaaDoorTie
import Derived.Test.YtcfhmbhlibhlnaaDoorWorld
import Derived.Test.YtcfhmbhlibhlnaaDoorBulk
import Derived.Test.YtcfhmbhlibhlnaaDoorPxf22
import Derived.Test.YtcfhmbhlibhlnaaDoorPureMicroReads
import Derived.WalkKit
import Derived.ProofKit
import Derived.OpenShut
import Derived.ShutString
import Derived.ChangeOld
import Derived.Below
import Derived.SizedLaws
import Derived.Carry
import Derived.Deep.DeepHandedRow
import Derived.Test.YtcfhmbhlibhlnaaDoorMine
import Derived.Test.YtcfhmbhlibhlnaaDoorHead
namespace Go.Proofs.YtcfhmbhlibhlnaaDoor.microReads
open Go.ChangeShapes Go.WideShapes Go.ChangeAt Go.RowKit
open Go.ChangeMaps (open_string shut_string)
open Go.Proofs.YtcfhmbhlibhlnaaDoor.World (wf laidWorld)
theorem own : ownKnob Tryd.prog.godebug = none := by kernel_rfl
theorem laid_met (os : Os) : laidMet Tryd.prog Rows.microReadsUptoRow.laid ((laidWorld os).forCall (fun _ _ => 0) ⟨#[], #[.string ByteArray.empty], []⟩).memory :=
  laidMet_of_run' 8 (by kernel_rfl) (by kernel_rfl)
theorem reads (os : Os) {H : Type} (enc : TypeId × Value → H) : ∃ places, DataW.whole enc Tryd.prog ((laidWorld os).forCall (fun _ _ => 0) ⟨#[], #[.string ByteArray.empty], []⟩).memory Tryd.f22.params.toList Rows.microReadsSpec.vars false (#[.string ByteArray.empty] : Array Value).toList 8 = some ([.lit (.string [])], [], places) :=
  ⟨[], by kernel_rfl⟩
set_option maxRecDepth 100000 in
theorem lifted (os : Os) (started : os.Started) (H : Type) (enc : TypeId × Value → H) (F : Stop.Interp) :
    ReturnsInHanded {} Tryd.checked os 22 .any ((Rows.OpenSpec.upto Rows.microReadsSpec).preRow enc Tryd.prog Tryd.f22 Rows.microReadsUptoRow.domain false Rows.microReadsUptoRow.laid) (((Rows.OpenSpec.upto Rows.microReadsSpec).at F).post enc Tryd.prog Tryd.f22 false true false false) := by
  obtain ⟨places, hx⟩ := reads os enc
  refine returnsInHanded_of_row (C := Tryd.checked) (s := (Rows.OpenSpec.upto Rows.microReadsSpec)) own started (by kernel_rfl) Tryd.func22
    (witness_row_at (enc := enc) (C := Tryd.checked) false (laidWorld os) #[.string ByteArray.empty] rfl (by kernel_rfl) (by kernel_rfl) (by kernel_rfl)
      (OpenSpec.preRow_of_cond 8 hx (by kernel_rfl) (fun k hk => by cases hk; kernel_rfl) (by kernel_rfl) (laid_met os))) ?_
  intro W base args ds gs before hval0 hW _ hcond hsz0 hL hShape _
  have hT : Mine.WF W := wf hShape hL
  have hB0 : Rows.uptoBulkAll (ds ++ gs) ≤ 1048576 := bulks.bound (hcond _ rfl)
  have hval : ∀ (j : Nat) t v, Tryd.f22.params[j]? = some t → args[j]? = some v → Value.okWide Tryd.prog W .any base t v := hval0
  have hW' := hW
  obtain ⟨p, q, hA0, hV, rfl, hfz, hnd⟩ := hW
  have hA : DataW.TrodAll enc Tryd.prog W 0 (fun _ => true) true Tryd.f22.params.toList args.toList ds p := hA0
  rw [Tryd.params22] at hA hval
  obtain ⟨v0, vs0, d0, ds0, p0, q0, hargs, rfl, rfl, h0, r0⟩ := trodAll_cons hA
  obtain ⟨rfl, rfl, rfl⟩ := trodAll_nil r0
  obtain rfl : args = #[v0] := by cases args; simp_all
  obtain ⟨rfl, rfl⟩ := trodVars_none hV
  have b0 : Rows.uptoBulk d0 ≤ 1048576 := Nat.le_trans (bulks.part_le (by simp)) hB0
  obtain ⟨a0, rfl, rfl, rfl, y0⟩ := open_string Tryd.underlying9 (hval 0 9 v0 rfl rfl) h0
  have w0 : a0.size ≤ 1048576 := by
    have hb_2 : (a0.data.toList).length + 1 ≤ 1048576 := (bulks.string_eq (H := H) _) ▸ b0
    rw [Array.length_toList] at hb_2
    exact Nat.le_of_succ_le hb_2
  clear hA0 hval0 hsz0
  refine (P.tumblerlaw02_MicroReads.walk Pure.MicroReads a0 W ⟨hT⟩ w0).mono fun e W' ⟨he, bel⟩ => ?_
  subst he
  exact ⟨_, rfl, _, _, _, [], _, [], hW', trodAll_mk1 (shut_bool Tryd.underlying4 _), (trodAll_cons_mk (shut_string Tryd.underlying9 y0) trodAll_mk0), rfl, bel.frame _, fun h => by cases h⟩
theorem closed : joinedFacts Tryd.prog 22 Tryd.f22 (Rows.OpenSpec.upto Rows.microReadsSpec).bare Rows.microReadsUptoRow = true := by
  unfold joinedFacts; rw [Head.may, Head.lf, Head.makeIs]; kernel_rfl
theorem over : Rows.MicroReadsUptoSaid :=
  OpenClaim.holds_of_cond 22 Tryd.f22 rfl rfl rfl rfl rfl rfl rfl ⟨rfl, rfl, rfl, rfl, rfl⟩ rfl rfl rfl rfl rfl (by kernel_rfl) Tryd.func22 closed
    (of_decide_eq_true (by kernel_rfl)) (by unfold Func.isWrapper; first | (rw [if_pos (by decide +kernel)]; kernel_rfl) | (rw [if_neg (by decide +kernel)]; exact ⟨rfl, rfl⟩))
    (fun os started H enc _ F => by rw [OpenClaim.pre_eq_preRow]; exact lifted os started H enc F)
theorem plain (f : FuncId) (fn : Func) (hf : Tryd.pinned.checked.prog.funcNamed "tumbler/tumblerlaw02.MicroReads" = some f) (hfn : Tryd.pinned.checked.prog.funcs[f]? = some fn) :
    false = Tryd.pinned.checked.prog.looks [] ∧ ∀ (j : Nat) t, fn.params[j]? = some t → Tryd.pinned.checked.prog.wantsStandIn t = false := by
  obtain rfl : f = 22 := Option.some.inj ((show Tryd.prog.funcNamed "tumbler/tumblerlaw02.MicroReads" = some 22 by kernel_rfl).symm.trans hf) |>.symm
  obtain rfl : fn = Tryd.f22 := (Option.some.inj (Tryd.func22.symm.trans hfn)).symm
  refine ⟨by kernel_rfl, fun j t ht => ?_⟩
  rw [Tryd.params22] at ht
  have hm_ := Array.mem_of_getElem? ht
  simp only [List.mem_toArray, List.mem_cons, List.not_mem_nil, or_false] at hm_
  rcases hm_ with rfl
  · exact (show Tryd.prog.wantsStandIn 9 = false by kernel_rfl)
theorem card : Rows.MicroReadsUptoCardSaid :=
  Claim7.holds_tied_plain_at .later [] _ _ _ _ over (fun _ h => by cases h) (by kernel_rfl) (fun _ h => by cases h) microReadsUpto_row_tie rfl ⟨rfl, rfl⟩ Head.main_is rfl plain (by kernel_rfl)
#print axioms card
end Go.Proofs.YtcfhmbhlibhlnaaDoor.microReads
namespace Go.Proofs.YtcfhmbhlibhlnaaDoor
/-- The card, under a short name, for the claim. -/
theorem microReads_card : Rows.MicroReadsUptoCardSaid := microReads.card
end Go.Proofs.YtcfhmbhlibhlnaaDoor
