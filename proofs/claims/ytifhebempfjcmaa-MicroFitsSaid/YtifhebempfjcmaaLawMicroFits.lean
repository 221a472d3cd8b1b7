-- The row of the law tumblerlaw02_MicroFits, printed by this session's own pp.py out of its Pure and the walk.
import Derived.Test.YtifhebempfjcmaaRows
import Derived.Test.YtifhebempfjcmaaPxf3
import Derived.Test.YtifhebempfjcmaaPureMicroFits
import Derived.WalkKit
import Derived.ProofKit
import Derived.OpenShut
import Derived.ShutString
import Derived.ChangeOld
import Derived.Below
import Derived.SizedLaws
import Derived.Carry
import Derived.Test.YtifhebempfjcmaaMine
namespace Go.Proofs.Ytifhebempfjcmaa.microFits
open Go.ChangeShapes Go.WideShapes Go.ChangeAt Go.RowKit
open Go.ChangeMaps (open_string shut_string)
theorem own : ownKnob Try.prog.godebug = none := by kernel_rfl
theorem laidOut : laidOutB Try.prog = true := by kernel_rfl
set_option maxRecDepth 100000 in
theorem lifted (os : Os) (started : os.Started) (H : Type) (enc : TypeId × Value → H) :
    ReturnsInHanded {} Try.checked os 3 .any (Rows.microFitsSpec.pre6 enc Try.prog Try.f3 Rows.microFitsRow.domain false) (Rows.microFitsSpec.post enc Try.prog Try.f3 false true false false) := by
  refine returnsInHanded_of_change_sized (C := Try.checked) own started (by kernel_rfl) Try.func3
    (ChangeSpec.witness6 (enc := enc) (C := Try.checked) false ⟨#[], #[.agg #[.int .i64 0, .int .u64 0]], []⟩ 8 (by kernel_rfl) (by kernel_rfl) (by kernel_rfl) (by kernel_rfl)) ?_
  intro W base args ds gs before hval0 hW hcnd hsz0 _
  have hsz : (DataW.weightsEach Try.prog (Try.f3.params.toList ++ Rows.microFitsSpec.plain.varTypes Try.prog) (ds ++ gs)).all (· ≤ reachBytes) = true := hsz0
  have hval : ∀ (j : Nat) t v, Try.f3.params[j]? = some t → args[j]? = some v → Value.okWide Try.prog W .any base t v := hval0
  have hW' := hW
  obtain ⟨p, q, hA0, hV, rfl, hfz, hnd⟩ := hW
  have hA : DataW.TrodAll enc Try.prog W 0 (fun _ => true) true Try.f3.params.toList args.toList ds p := hA0
  rw [Try.params3] at hA hval hsz
  obtain ⟨v0, vs0, d0, ds0, p0, q0, hargs, rfl, rfl, h0, r0⟩ := trodAll_cons hA
  obtain ⟨rfl, rfl, rfl⟩ := trodAll_nil r0
  obtain rfl : args = #[v0] := by cases args; simp_all
  obtain ⟨rfl, rfl⟩ := trodVars_none hV
  have k0 := h0
  have lt0 : ∀ x ∈ p0, x.block < W.heap.size := by obtain ⟨m, hm⟩ := k0; exact DataW.trod_lt m _ _ _ hm
  obtain ⟨l0, ys0, m0, rfl, hl0, hd0, hy0, g0⟩ := Mine.open_fields Try.underlying24 (by kernel_rfl) (by kernel_rfl) (hval 0 24 v0 rfl rfl) h0
  obtain ⟨u0_0, e0_0, hu0_0, he0_0, t0_0⟩ := g0 0 _ rfl
  obtain ⟨a0_0, c0_0, x0_0, w0_0⟩ := DataW.trod_int Try.underlying2 t0_0
  injection c0_0 with c0_0 _
  subst c0_0
  subst x0_0
  obtain ⟨u0_1, e0_1, hu0_1, he0_1, t0_1⟩ := g0 1 _ rfl
  obtain ⟨a0_1, c0_1, x0_1, w0_1⟩ := DataW.trod_int Try.underlying22 t0_1
  injection c0_1 with c0_1 _
  subst c0_1
  subst x0_1
  obtain rfl := Mine.list_2 hl0 hu0_0 hu0_1
  obtain rfl := Mine.list_2 hy0 he0_0 he0_1
  clear hA0 hval0 hsz0 hsz
  refine (P.tumblerlaw02_MicroFits.walk Pure.MicroFits a0_0 a0_1 W w0_0 w0_1).mono fun e W' ⟨he, bel⟩ => ?_
  subst he
  exact ⟨_, rfl, _, _, _, [], _, [], hW', trodAll_mk1 (shut_bool Try.underlying4 _), (trodAll_cons_mk (Below.trod laidOut (by kernel_rfl) (of_decide_eq_true (by kernel_rfl)) k0 bel lt0) trodAll_mk0), rfl, bel.frame _, fun h => by cases h⟩
theorem over : Rows.microFitsRow.holds Try.pinned (OpenSpec.ofChange Rows.microFitsSpec) :=
  OpenClaim.holds_of_wide 3 Try.f3 rfl rfl rfl rfl rfl rfl rfl ⟨rfl, rfl, rfl, rfl, rfl⟩ rfl rfl rfl rfl rfl (by kernel_rfl) Try.func3 (by kernel_rfl)
    (of_decide_eq_true (by kernel_rfl)) (by unfold Func.isWrapper; first | (rw [if_pos (by decide +kernel)]; kernel_rfl) | (rw [if_neg (by decide +kernel)]; exact ⟨rfl, rfl⟩))
    (fun os started H enc _ => lifted os started H enc)
theorem proved : Rows.MicroFitsSaid := over
#print axioms proved
end Go.Proofs.Ytifhebempfjcmaa.microFits
namespace Go.Proofs.Ytifhebempfjcmaa
/-- The row, under a short name, for the claim. -/
theorem microFits_holds : Rows.MicroFitsSaid := microFits.proved
end Go.Proofs.Ytifhebempfjcmaa
