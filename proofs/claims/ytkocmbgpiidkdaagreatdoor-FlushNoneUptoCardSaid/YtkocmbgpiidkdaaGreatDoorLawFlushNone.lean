-- The row of the law FlushNone and its card.
import Derived.Test.YtkocmbgpiidkdaaGreatDoorCards
import Derived.Test.YtkocmbgpiidkdaaGreatDoorTie
import Derived.Test.YtkocmbgpiidkdaaGreatDoorBulk
import Derived.Test.YtkocmbgpiidkdaaGreatDoorKRow0
import Derived.Test.YtkocmbgpiidkdaaGreatDoorKGd
import Derived.Test.YtkocmbgpiidkdaaGreatDoorKRw3
import Derived.WalkKit
import Derived.ProofKit
import Derived.OpenShut
import Derived.ShutString
import Derived.ChangeOld
import Derived.Below
import Derived.SizedLaws
import Derived.Carry
import Derived.Deep.DeepHandedRow
import Derived.Test.YtkocmbgpiidkdaaGreatDoorHead
set_option linter.unusedSimpArgs false
namespace Go.Proofs.YtkocmbgpiidkdaaGreatDoor.flushNone
open Go.ChangeShapes Go.WideShapes Go.ChangeAt Go.RowKit
open Go.ChangeMaps (open_string shut_string)
open Go.Proofs.YtkocmbgpiidkdaaGreatDoor.World (laidWorld)
theorem own : ownKnob Tryz.prog.godebug = none := by kernel_rfl
theorem laidOut : laidOutB Tryz.prog = true := by kernel_rfl
theorem laid_met (os : Os) : laidMet Tryz.prog Rows.flushNoneUptoRow.laid ((laidWorld os).forCall (fun _ _ => 0) ⟨#[], #[.int .i64 0, .int .i64 0, .agg #[.string ByteArray.empty, .slice none 0 0, .slice none 0 0]], []⟩).memory :=
  laidMet_of_run' 8 (by kernel_rfl) (by kernel_rfl)
theorem reads (os : Os) {H : Type} (enc : TypeId × Value → H) : ∃ places, DataW.whole enc Tryz.prog ((laidWorld os).forCall (fun _ _ => 0) ⟨#[], #[.int .i64 0, .int .i64 0, .agg #[.string ByteArray.empty, .slice none 0 0, .slice none 0 0]], []⟩).memory Tryz.f8.params.toList Rows.flushNoneSpec.vars false (#[.int .i64 0, .int .i64 0, .agg #[.string ByteArray.empty, .slice none 0 0, .slice none 0 0]] : Array Value).toList 8 = some ([.lit (.int .i64 0), .lit (.int .i64 0), .agg [.lit (.string []), .nil, .nil]], [], places) :=
  ⟨[], by kernel_rfl⟩
set_option maxRecDepth 100000 in
theorem lifted (os : Os) (started : os.Started) (H : Type) (enc : TypeId × Value → H) (F : Stop.Interp) :
    ReturnsInHanded {} Tryz.checked os 8 .any ((Rows.OpenSpec.upto Rows.flushNoneSpec).preRow enc Tryz.prog Tryz.f8 Rows.flushNoneUptoRow.domain false Rows.flushNoneUptoRow.laid) (((Rows.OpenSpec.upto Rows.flushNoneSpec).at F).post enc Tryz.prog Tryz.f8 false true false false) := by
  obtain ⟨places, hx⟩ := reads os enc
  refine returnsInHanded_of_row (C := Tryz.checked) (s := (Rows.OpenSpec.upto Rows.flushNoneSpec)) own started (by kernel_rfl) Tryz.func8
    (witness_row_at (enc := enc) (C := Tryz.checked) false (laidWorld os) #[.int .i64 0, .int .i64 0, .agg #[.string ByteArray.empty, .slice none 0 0, .slice none 0 0]] rfl (by kernel_rfl) (by kernel_rfl) (by kernel_rfl)
      (OpenSpec.preRow_of_cond 8 hx (by kernel_rfl) (fun k hk => by cases hk; kernel_rfl) (by kernel_rfl) (laid_met os))) ?_
  intro W base args ds gs before hval0 hW _ hcond hsz0 hL hShape _
  have hB0 : Rows.uptoBulkAll (ds ++ gs) ≤ 1048576 := bulks.bound (hcond _ rfl)
  have hval : ∀ (j : Nat) t v, Tryz.f8.params[j]? = some t → args[j]? = some v → Value.okWide Tryz.prog W .any base t v := hval0
  have hW' := hW
  obtain ⟨p, q, hA0, hV, rfl, hfz, hnd⟩ := hW
  have hA : DataW.TrodAll enc Tryz.prog W 0 (fun _ => true) true Tryz.f8.params.toList args.toList ds p := hA0
  rw [Tryz.params8] at hA hval
  obtain ⟨v0, vs0, d0, ds0, p0, q0, hargs, rfl, rfl, h0, r0⟩ := trodAll_cons hA
  obtain ⟨v1, vs1, d1, ds1, p1, q1, rfl, rfl, rfl, h1, r1⟩ := trodAll_cons r0
  obtain ⟨v2, vs2, d2, ds2, p2, q2, rfl, rfl, rfl, h2, r2⟩ := trodAll_cons r1
  obtain ⟨rfl, rfl, rfl⟩ := trodAll_nil r2
  obtain rfl : args = #[v0, v1, v2] := by cases args; simp_all
  obtain ⟨rfl, rfl⟩ := trodVars_none hV
  have b0 : Rows.uptoBulk d0 ≤ 1048576 := Nat.le_trans (bulks.part_le (by simp)) hB0
  have b1 : Rows.uptoBulk d1 ≤ 1048576 := Nat.le_trans (bulks.part_le (by simp)) hB0
  have b2 : Rows.uptoBulk d2 ≤ 1048576 := Nat.le_trans (bulks.part_le (by simp)) hB0
  have k0 := h0
  have lt0 : ∀ x ∈ p0, x.block < W.heap.size := by obtain ⟨m, hm⟩ := k0; exact DataW.trod_lt m _ _ _ hm
  obtain ⟨a0, rfl, _, _, w0⟩ := open_int Tryz.underlying2 (hval 0 2 v0 rfl rfl) h0
  have k1 := h1
  have lt1 : ∀ x ∈ p1, x.block < W.heap.size := by obtain ⟨m, hm⟩ := k1; exact DataW.trod_lt m _ _ _ hm
  obtain ⟨a1, rfl, _, _, w1⟩ := open_int Tryz.underlying2 (hval 1 2 v1 rfl rfl) h1
  have k2 := h2
  have lt2 : ∀ x ∈ p2, x.block < W.heap.size := by obtain ⟨m, hm⟩ := k2; exact DataW.trod_lt m _ _ _ hm
  obtain ⟨l2, ys2, m2, rfl, hl2, hd2, hy2, g2⟩ := Mine.open_fields Tryz.underlying27 (by kernel_rfl) (by kernel_rfl) (hval 2 27 v2 rfl rfl) h2
  have B2 : ∀ y ∈ ys2, Rows.uptoBulk y.1 ≤ 1048576 := fun y hy_ => by rw [hd2] at b2; exact Nat.le_trans (bulks.part_le (List.mem_map_of_mem hy_)) (Nat.le_trans (Nat.le_succ _) b2)
  obtain ⟨u2_0, e2_0, hu2_0, he2_0, t2_0⟩ := g2 0 _ rfl
  obtain ⟨a2_0, c2_0, x2_0, _⟩ := DataW.trod_string Tryz.underlying9 t2_0
  injection c2_0 with c2_0 _
  subst c2_0
  have hb_ := B2 _ (List.mem_of_getElem? he2_0)
  rw [x2_0] at hb_
  have hb_2 := (bulks.string_eq (H := H) _) ▸ hb_
  clear hb_
  obtain ⟨s2_0, rfl, z2_0⟩ := World.text_of a2_0
  have n2_0 : s2_0.length ≤ 1048576 := by
    have hb_3 : s2_0.length + 1 ≤ 1048576 := hb_2
    omega
  clear hb_2
  obtain ⟨u2_1, e2_1, hu2_1, he2_1, t2_1⟩ := g2 1 _ rfl
  obtain ⟨us2_1, V2_1, S2_1⟩ := row_ints Tryz.underlying25 Tryz.underlying2 (by kernel_rfl) t2_1
  have n2_1 : us2_1.length ≤ 1048576 := by
    have hb_ := B2 _ (List.mem_of_getElem? he2_1)
    rcases S2_1 with h | ⟨el, sp, h1, h2⟩
    · omega
    · rw [h1] at hb_; have := bulks.slice_le el sp; omega
  obtain ⟨u2_2, e2_2, hu2_2, he2_2, t2_2⟩ := g2 2 _ rfl
  obtain ⟨us2_2, V2_2, S2_2⟩ := row_ints Tryz.underlying25 Tryz.underlying2 (by kernel_rfl) t2_2
  have n2_2 : us2_2.length ≤ 1048576 := by
    have hb_ := B2 _ (List.mem_of_getElem? he2_2)
    rcases S2_2 with h | ⟨el, sp, h1, h2⟩
    · omega
    · rw [h1] at hb_; have := bulks.slice_le el sp; omega
  obtain rfl := Mine.list_3 hl2 hu2_0 hu2_1 hu2_2
  clear hA0 hval0 hsz0
  refine (show Calls Tryz.prog 8 #[.int .i64 a0, .int .i64 a1, .agg #[.string (bs s2_0), u2_1, u2_2]] W (fun e w' => e = .returned (.bool true) ∧ Below W.heap.size W w') from by
    have hT : WF W := World.wf hShape (show laidMet Tryz.prog Rows.flushNoneUptoRow.laid W from hL) (by unfold Rows.flushNoneUptoRow; simp) (by unfold Rows.flushNoneUptoRow; simp)
    exact (Go.Proofs.YtkocmbgpiidkdaaGreatDoor.flushNone (W0 := W) hT a0 a1 s2_0 us2_1 us2_2 n2_0 n2_1 n2_2).calls_at (rel_W W) (.cons (.int _ _) (.cons (.int _ _) (.cons (rel_3 (.string _) V2_1 V2_2) (.nil _)))) (.bool _)).mono fun e W' ⟨he, bel⟩ => ?_
  subst he
  exact ⟨_, rfl, _, _, _, [], _, [], hW', trodAll_mk1 (shut_bool Tryz.underlying4 _), (trodAll_cons_mk (Below.trod laidOut (by kernel_rfl) (of_decide_eq_true (by kernel_rfl)) k0 bel lt0) (trodAll_cons_mk (Below.trod laidOut (by kernel_rfl) (of_decide_eq_true (by kernel_rfl)) k1 bel lt1) (trodAll_cons_mk (Below.trod laidOut (by kernel_rfl) (of_decide_eq_true (by kernel_rfl)) k2 bel lt2) trodAll_mk0))), rfl, bel.frame _, fun h => by cases h⟩
theorem closed : joinedFacts Tryz.prog 8 Tryz.f8 (Rows.OpenSpec.upto Rows.flushNoneSpec).bare Rows.flushNoneUptoRow = true := by
  unfold joinedFacts; rw [Head.may, Head.lf, Head.makeIs]; kernel_rfl
theorem over : Rows.FlushNoneUptoSaid :=
  OpenClaim.holds_of_cond 8 Tryz.f8 rfl rfl rfl rfl rfl rfl rfl ⟨rfl, rfl, rfl, rfl, rfl⟩ rfl rfl rfl rfl rfl (by kernel_rfl) Tryz.func8 closed
    (of_decide_eq_true (by kernel_rfl)) (by unfold Func.isWrapper; first | (rw [if_pos (by decide +kernel)]; kernel_rfl) | (rw [if_neg (by decide +kernel)]; exact ⟨rfl, rfl⟩))
    (fun os started H enc _ F => by rw [OpenClaim.pre_eq_preRow]; exact lifted os started H enc F)
theorem plain (f : FuncId) (fn : Func) (hf : Tryz.pinned.checked.prog.funcNamed "tumbler/tumblerlaw10.FlushNone" = some f) (hfn : Tryz.pinned.checked.prog.funcs[f]? = some fn) :
    false = Tryz.pinned.checked.prog.looks [] ∧ ∀ (j : Nat) t, fn.params[j]? = some t → Tryz.pinned.checked.prog.wantsStandIn t = false := by
  obtain rfl : f = 8 := Option.some.inj ((show Tryz.prog.funcNamed "tumbler/tumblerlaw10.FlushNone" = some 8 by kernel_rfl).symm.trans hf) |>.symm
  obtain rfl : fn = Tryz.f8 := (Option.some.inj (Tryz.func8.symm.trans hfn)).symm
  refine ⟨by kernel_rfl, fun j t ht => ?_⟩
  rw [Tryz.params8] at ht
  have hm_ := Array.mem_of_getElem? ht
  simp only [List.mem_toArray, List.mem_cons, List.not_mem_nil, or_false] at hm_
  rcases hm_ with rfl | rfl | rfl
  · exact (show Tryz.prog.wantsStandIn 2 = false by kernel_rfl)
  · exact (show Tryz.prog.wantsStandIn 2 = false by kernel_rfl)
  · exact (show Tryz.prog.wantsStandIn 27 = false by kernel_rfl)
theorem card : Rows.FlushNoneUptoCardSaid :=
  Claim7.holds_tied_plain_at .later [] _ _ _ _ over (fun _ h => by cases h) (by kernel_rfl) (fun _ h => by cases h) flushNoneUpto_row_tie rfl ⟨rfl, rfl⟩ Head.main_is rfl plain (by kernel_rfl)
end Go.Proofs.YtkocmbgpiidkdaaGreatDoor.flushNone
namespace Go.Proofs.YtkocmbgpiidkdaaGreatDoor
/-- The card, under a short name, for the claim. -/
theorem flushNone_card : Rows.FlushNoneUptoCardSaid := flushNone.card
end Go.Proofs.YtkocmbgpiidkdaaGreatDoor
