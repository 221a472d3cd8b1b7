/- What a row needs of its world and of the records that came in. -/
import Derived.Test.YtkocmbgpiidkdaaGreatDoorRows
import Derived.WalkKit
import Derived.Below
import Derived.SizedLaws
import Derived.OpenShut
import Derived.ChangeOld
import Derived.Carry
import Derived.ProofKit
import Derived.LaidLaws
import Derived.Deep.DeepHandedRow
import Derived.Test.YtkocmbgpiidkdaaGreatDoorKWm
import Derived.Test.YtkocmbgpiidkdaaGreatDoorKNv
import Derived.Lib.LaidU8
set_option linter.unusedVariables false
set_option linter.unusedSimpArgs false
namespace Go.Proofs.YtkocmbgpiidkdaaGreatDoor.Mine
open Go
/-! A record that came in: its cells and its fields' readings. -/
section
open Go.Joins Go.ChangeShapes Go.WideShapes Go.RowKit Go.Deep
variable {H : Type} {enc : TypeId × Value → H} {P : Program} {w : World} {base : Nat} {spare : Nat → Bool} {held : Bool}
theorem open_fields {r : Reach} {b0 : Nat} {t : TypeId} {fs : Array Field} {v : Value} {d : DataW H} {p : List MemPlace} (hs : P.underlying t = some (.struct fs)) (hone : oneCellFields P fs = true) (hC : P.cellsOf t = fs.size)
    (hv : Value.okWide P w r b0 t v) (h : DataW.Trod enc P w base spare held t v d p) :
    ∃ (l : List Value) (ys : List (DataW H × List MemPlace)) (n : Nat), v = .agg ⟨l⟩ ∧ l.length = fs.size ∧ d = .agg (ys.map (·.1)) ∧ ys.length = fs.size ∧
      ∀ (j : Nat) (f : Field), fs[j]? = some f → ∃ (u : Value) (y : DataW H × List MemPlace), l[j]? = some u ∧ ys[j]? = some y ∧ DataW.trod enc P w base spare held n f.type [u] = some y := by
  obtain ⟨cs, rfl, hsz⟩ := okWide_struct hs hv
  obtain ⟨l⟩ := cs
  obtain ⟨fuel, hf⟩ := h
  obtain ⟨ys, n, _, hx, _, hlen, hg⟩ := DataW.trod_struct hs hf
  simp only [Prod.mk.injEq] at hx
  have hl : l.length = fs.size := hsz.trans hC
  refine ⟨l, ys, n, rfl, hl, hx.1, hlen, fun j f hj => ?_⟩
  obtain ⟨ho, hk⟩ := hone_of hone j f hj
  have hjl : j < fs.size := (Array.getElem?_eq_some_iff.1 hj).1
  have h1 := hg j f hj
  rw [ho, hk] at h1
  have hl1 : j < l.length := by omega
  have h2 : DataW.trod enc P w base spare held n f.type ((l.drop j).take 1) = ys[j]? := by simpa [Value.cells] using h1
  rw [List.drop_eq_getElem_cons hl1, List.take_succ_cons, List.take_zero] at h2
  exact ⟨l[j], ys[j]'(by omega), List.getElem?_eq_getElem hl1, List.getElem?_eq_getElem (by omega), h2.trans (List.getElem?_eq_getElem (by omega))⟩
end
theorem list_1 {α : Type} {l : List α} {u0 : α} (h : l.length = 1) (h0 : l[0]? = some u0) : l = [u0] := by
  match l, h with
  | [c0], _ => simp_all
theorem list_2 {α : Type} {l : List α} {u0 u1 : α} (h : l.length = 2) (h0 : l[0]? = some u0) (h1 : l[1]? = some u1) : l = [u0, u1] := by
  match l, h with
  | [c0, c1], _ => simp_all
theorem list_3 {α : Type} {l : List α} {u0 u1 u2 : α} (h : l.length = 3) (h0 : l[0]? = some u0) (h1 : l[1]? = some u1) (h2 : l[2]? = some u2) : l = [u0, u1, u2] := by
  match l, h with
  | [c0, c1, c2], _ => simp_all
theorem list_4 {α : Type} {l : List α} {u0 u1 u2 u3 : α} (h : l.length = 4) (h0 : l[0]? = some u0) (h1 : l[1]? = some u1) (h2 : l[2]? = some u2) (h3 : l[3]? = some u3) : l = [u0, u1, u2, u3] := by
  match l, h with
  | [c0, c1, c2, c3], _ => simp_all
theorem list_5 {α : Type} {l : List α} {u0 u1 u2 u3 u4 : α} (h : l.length = 5) (h0 : l[0]? = some u0) (h1 : l[1]? = some u1) (h2 : l[2]? = some u2) (h3 : l[3]? = some u3) (h4 : l[4]? = some u4) : l = [u0, u1, u2, u3, u4] := by
  match l, h with
  | [c0, c1, c2, c3, c4], _ => simp_all
theorem list_6 {α : Type} {l : List α} {u0 u1 u2 u3 u4 u5 : α} (h : l.length = 6) (h0 : l[0]? = some u0) (h1 : l[1]? = some u1) (h2 : l[2]? = some u2) (h3 : l[3]? = some u3) (h4 : l[4]? = some u4) (h5 : l[5]? = some u5) : l = [u0, u1, u2, u3, u4, u5] := by
  match l, h with
  | [c0, c1, c2, c3, c4, c5], _ => simp_all
theorem list_7 {α : Type} {l : List α} {u0 u1 u2 u3 u4 u5 u6 : α} (h : l.length = 7) (h0 : l[0]? = some u0) (h1 : l[1]? = some u1) (h2 : l[2]? = some u2) (h3 : l[3]? = some u3) (h4 : l[4]? = some u4) (h5 : l[5]? = some u5) (h6 : l[6]? = some u6) : l = [u0, u1, u2, u3, u4, u5, u6] := by
  match l, h with
  | [c0, c1, c2, c3, c4, c5, c6], _ => simp_all
theorem list_8 {α : Type} {l : List α} {u0 u1 u2 u3 u4 u5 u6 u7 : α} (h : l.length = 8) (h0 : l[0]? = some u0) (h1 : l[1]? = some u1) (h2 : l[2]? = some u2) (h3 : l[3]? = some u3) (h4 : l[4]? = some u4) (h5 : l[5]? = some u5) (h6 : l[6]? = some u6) (h7 : l[7]? = some u7) : l = [u0, u1, u2, u3, u4, u5, u6, u7] := by
  match l, h with
  | [c0, c1, c2, c3, c4, c5, c6, c7], _ => simp_all
theorem wf_i64 {a : Int} (h : (Lit.int .i64 a).wf = true) : Hi a := by
  have e1 : IntKind.i64.min = -9223372036854775808 := by decide
  have e2 : IntKind.i64.max = 9223372036854775807 := by decide
  simpa [Lit.wf, e1, e2, Hi] using h
theorem wf_u64 {a : Int} (h : (Lit.int .u64 a).wf = true) : U a := by
  have e1 : IntKind.u64.min = 0 := by decide
  have e2 : IntKind.u64.max = 18446744073709551615 := by decide
  simp [Lit.wf, e1, e2] at h
  unfold U
  omega
end Go.Proofs.YtkocmbgpiidkdaaGreatDoor.Mine
namespace Go.Proofs.YtkocmbgpiidkdaaGreatDoor.World
open Go Go.Den Go.RowKit
def leafV : DataW Unit → Value
  | .lit (.int k n) => .int k n
  | .lit (.bool b) => .bool b
  | _ => .bool false
def leaves1 : DataW Unit → List Value
  | .agg l => l.map leafV
  | d => [leafV d]
def leaves2 : DataW Unit → List Value
  | .agg l => l.flatMap leaves1
  | d => [leafV d]
def putCells (cs : List Value) : Obj → Obj
  | .cells _ t frozen => .cells cs.toArray t frozen
  | o => o
noncomputable def laidWorld (os : Os) : World :=
  { World.holding Tryz.prog os ⟨#[], #[], []⟩ with
    heap := (((((World.holding Tryz.prog os ⟨#[], #[], []⟩).heap.modify 2 (putCells (leaves1 Rows.laid_unicode_utf8_first))).modify 3 (putCells (leaves2 (Rows.laid_unicode_utf8_acceptRanges (H := Unit))))).modify 1 (putCells (leaves1 Rows.laid_internal_strconv_uint64pow10))).modify 4 (putCells (leaves1 Rows.laid_math_bits_deBruijn32tab))).modify 5 (putCells (leaves1 Rows.laid_math_bits_deBruijn64tab)) }
example : Tryz.prog.globalNamed "unicode/utf8.first" = some 2 := by kernel_rfl
example : Tryz.prog.globalNamed "unicode/utf8.acceptRanges" = some 3 := by kernel_rfl
theorem gTab : Tryz.prog.globalNamed "internal/strconv.uint64pow10" = some 1 := by kernel_rfl
example : Tryz.prog.globalNamed "math/bits.deBruijn32tab" = some 4 := by kernel_rfl
example : Tryz.prog.globalNamed "math/bits.deBruijn64tab" = some 5 := by kernel_rfl
theorem first_eq : (Rows.laid_unicode_utf8_first : DataW Unit) = Lib.firstData := by kernel_rfl
theorem accept_eq : (Rows.laid_unicode_utf8_acceptRanges : DataW Unit) = Lib.acceptData := by kernel_rfl
theorem wf {W : World} {l : List (String × DataW Unit)} (hs : W.ShapedOpen Tryz.prog) (h : laidMet Tryz.prog l W)
    (m1 : ("unicode/utf8.acceptRanges", Rows.laid_unicode_utf8_acceptRanges) ∈ l) (m2 : ("unicode/utf8.first", Rows.laid_unicode_utf8_first) ∈ l) : WF W := by
  rw [accept_eq] at m1
  rw [first_eq] at m2
  exact ⟨Tryz.laysM146.s1_3 W hs, utf8Tabs_of_reads Tryz.lays260 ⟨by kernel_rfl, by kernel_rfl, by kernel_rfl, by kernel_rfl, by kernel_rfl, by kernel_rfl, by kernel_rfl⟩ (Lib.laidMet.reads h m2) (Lib.laidMet.reads h m1)⟩
/-- A text that came in. -/
theorem text_of (b : ByteArray) : ∃ l : List UInt8, b = bs l ∧ b.data.toList = l := ⟨b.data.toList, rfl, rfl⟩
end Go.Proofs.YtkocmbgpiidkdaaGreatDoor.World
