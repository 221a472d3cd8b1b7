/- Words of my own for the walks: math/bits.Add64 and Sub64 as pure operations on whole numbers. -/
import Derived.Lib.LaidTab
import Derived.Shelf.Strconv.Itoa1
import Derived.Test.YtcfhmbhlibhlnaaDoorProg
import Derived.Shelf.GgClosure.Gives
import Derived.Laws.Externs
import Derived.Shelf.Spec.BitsCarry
import Derived.Lib.SmallJoins
import Derived.ChangeKeysEq
import Derived.SizedLaws
import Derived.Below
import Derived.Test.YtcfhmbhlibhlnaaDoorWd
namespace Go.Proofs.YtcfhmbhlibhlnaaDoor.Mine
open Go
/-! Short names: for what stands a thousand times in a printed proof. -/
section
open Go.RowKit Go.Proofs.YtcfhmbhlibhlnaaDoorW.PrintWords
theorem bA {w : World} {g : Nat} {o : Obj} (h : w.heap[g]? = some o) (n : Nat) : (w.drewN n).heap[g]? = some o := blk_drewN h n
theorem bB {w : World} {g : Nat} {o : Obj} (h : w.heap[g]? = some o) : w.drew.heap[g]? = some o := blk_drew h
theorem bC {w : World} {g : Nat} {o : Obj} (h : w.heap[g]? = some o) (o' : Obj) : (w.alloc o').heap[g]? = some o := blk_alloc h o'
theorem dA {w W : World} (h : Below w.heap.size w W) (o : Obj) : Below w.heap.size w (W.alloc o) := below_alloc h o
theorem dB {B : Nat} {w W : World} (h : Below B w W) (n : Nat) : Below B w (W.drewN n) := pw_below_drewN h n
theorem dC {base : Nat} {w W : World} (h : Below base w W) : Below base w W.drew := below_drew1 h
theorem dD {w W : World} {g j : Nat} {v : Value} (h : Below w.heap.size w W) (hg : w.heap.size ≤ g) : Below w.heap.size w (W.setCell ⟨g, j, none⟩ v) := below_set h hg
theorem dE {w W : World} {g j : Nat} {v : Value} (h : Below w.heap.size w W) (hg : Aside0 (w.heap.size ≤ g)) : Below w.heap.size w (W.setCell ⟨g, j, none⟩ v) := below_set h hg.out
/-! The same with the step found where it is used: a block, or what lies below, behind draws and new blocks. -/
theorem bq {w0 w : World} {g : Nat} {o : Obj} (_b : Aside0 (w0.heap[g]? = some o)) (h : w.heap[g]? = some o := by (with_reducible repeat (first | apply bA | apply bB | apply bC)); exact Aside0.out ‹_›) : w.heap[g]? = some o := h
theorem bb {w0 w w1 : World} {g : Nat} {o : Obj} (_b : Aside0 (w0.heap[g]? = some o)) (hb : Below w.heap.size w w1) (h : w.heap[g]? = some o := by (with_reducible repeat (first | apply bA | apply bB | apply bC)); exact Aside0.out ‹_›) : w1.heap[g]? = some o := blk_below h hb
theorem bl {w0 w : World} {g : Nat} {o : Obj} (_b : Aside0 (w0.heap[g]? = some o)) (h : w.heap[g]? = some o := by (with_reducible repeat (first | apply bA | apply bB | apply bC)); exact Aside0.out ‹_›) : g < w.heap.size := blk_lt h
theorem bz {w W : World} (h : Below w.heap.size w W := by repeat (first | (with_reducible first | exact Aside0.out ‹_› | apply dA | apply dB | apply dC | refine dE ?_ ‹_›) | exact Aside0.out ‹_›)) : Below w.heap.size w W := h
theorem am {p : Prop} (h : p) : Aside0 p := ⟨h⟩
end
/-- Add64's sum and carry, Sub64's difference and borrow, as the model has them, for any carry up to 1. -/
def addLo (x y c : Int) : Int := (((x.toNat + y.toNat + c.toNat) % 18446744073709551616 : Nat) : Int)
def addHi (x y c : Int) : Int := (((x.toNat + y.toNat + c.toNat) / 18446744073709551616 : Nat) : Int)
def subLo (x y c : Int) : Int := (((x.toNat + 18446744073709551616 - y.toNat - c.toNat) % 18446744073709551616 : Nat) : Int)
def subHi (x y c : Int) : Int := ((if x.toNat < y.toNat + c.toNat then 1 else 0 : Nat) : Int)
theorem run_add64_ {P : Program} (x y c : Int) (h : c ≤ 1) (w : World) :
    (add64Entry #[.int .u64 x, .int .u64 y, .int .u64 c]).run P w = .ok (.tuple #[.int .u64 (addLo x y c), .int .u64 (addHi x y c)]) w := by
  have key : ∀ k : Nat, k ≤ 1 → (add64Entry #[.int .u64 x, .int .u64 y, .int .u64 (k : Int)]).run P w =
      .ok (Extern.MathBitsCarry.pair ((x.toNat + y.toNat + k) % Extern.MathBitsCarry.m64) ((x.toNat + y.toNat + k) / Extern.MathBitsCarry.m64)) w := by
    intro k hk
    have : k = 0 ∨ k = 1 := by omega
    rcases this with rfl | rfl <;> rfl
  have key0 : c < 0 → (add64Entry #[.int .u64 x, .int .u64 y, .int .u64 c]).run P w =
      .ok (Extern.MathBitsCarry.pair ((x.toNat + y.toNat + 0) % Extern.MathBitsCarry.m64) ((x.toNat + y.toNat + 0) / Extern.MathBitsCarry.m64)) w := by
    intro hc
    obtain ⟨n, rfl⟩ := Int.eq_negSucc_of_lt_zero hc
    rfl
  by_cases hc : 0 ≤ c
  · obtain ⟨k, rfl⟩ := Int.eq_ofNat_of_zero_le hc
    rw [key k (by omega)]
    rfl
  · rw [key0 (by omega)]
    have : c.toNat = 0 := by omega
    simp only [addLo, addHi, this]
    rfl
theorem run_sub64_ {P : Program} (x y c : Int) (h : c ≤ 1) (w : World) :
    (sub64Entry #[.int .u64 x, .int .u64 y, .int .u64 c]).run P w = .ok (.tuple #[.int .u64 (subLo x y c), .int .u64 (subHi x y c)]) w := by
  have key : ∀ k : Nat, k ≤ 1 → (sub64Entry #[.int .u64 x, .int .u64 y, .int .u64 (k : Int)]).run P w =
      .ok (Extern.MathBitsCarry.pair ((x.toNat + Extern.MathBitsCarry.m64 - y.toNat - k) % Extern.MathBitsCarry.m64) (if x.toNat < y.toNat + k then 1 else 0)) w := by
    intro k hk
    have : k = 0 ∨ k = 1 := by omega
    rcases this with rfl | rfl <;> rfl
  have key0 : c < 0 → (sub64Entry #[.int .u64 x, .int .u64 y, .int .u64 c]).run P w =
      .ok (Extern.MathBitsCarry.pair ((x.toNat + Extern.MathBitsCarry.m64 - y.toNat - 0) % Extern.MathBitsCarry.m64) (if x.toNat < y.toNat + 0 then 1 else 0)) w := by
    intro hc
    obtain ⟨n, rfl⟩ := Int.eq_negSucc_of_lt_zero hc
    rfl
  by_cases hc : 0 ≤ c
  · obtain ⟨k, rfl⟩ := Int.eq_ofNat_of_zero_le hc
    rw [key k (by omega)]
    rfl
  · rw [key0 (by omega)]
    have : c.toNat = 0 := by omega
    simp only [subLo, subHi, this]
    rfl
/-! A record that came in: its cells and its fields' readings. -/
section
open Go.Joins Go.ChangeShapes Go.WideShapes Go.RowKit Go.Deep
variable {H : Type} {enc : TypeId × Value → H} {P : Program} {w : World} {base : Nat} {spare : Nat → Bool} {held : Bool}
theorem open_fields {r : Reach} {b0 : Nat} {t : TypeId} {fs : Array Field} {v : Value} {d : DataW H} {p : List MemPlace} (hs : P.underlying t = some (.struct fs)) (hone : oneCellFields P fs = true) (hC : P.cellsOf t = fs.size)
    (hv : Value.okWide P w r b0 t v) (h : DataW.Trod enc P w base spare held t v d p) :
    ∃ (l : List Value) (ys : List (DataW H × List MemPlace)) (n : Nat), v = .agg ⟨l⟩ ∧ l.length = fs.size ∧ d = .agg (ys.map (·.1)) ∧ ys.length = fs.size ∧
      ∀ (j : Nat) (f : Field), fs[j]? = some f → ∃ (u : Value) (y : DataW H × List MemPlace), l[j]? = some u ∧ ys[j]? = some y ∧ DataW.trod enc P w base spare held n f.type [u] = some y := by
  obtain ⟨cs, rfl, hsz⟩ := okWide_struct hs hv
  obtain ⟨l⟩ := cs
  obtain ⟨fuel, hf⟩ := h
  obtain ⟨ys, n, _, hx, _, hlen, hg⟩ := DataW.trod_struct hs hf
  simp only [Prod.mk.injEq] at hx
  have hl : l.length = fs.size := hsz.trans hC
  refine ⟨l, ys, n, rfl, hl, hx.1, hlen, fun j f hj => ?_⟩
  obtain ⟨ho, hk⟩ := hone_of hone j f hj
  have hjl : j < fs.size := (Array.getElem?_eq_some_iff.1 hj).1
  have h1 := hg j f hj
  rw [ho, hk] at h1
  have hl1 : j < l.length := by omega
  have h2 : DataW.trod enc P w base spare held n f.type ((l.drop j).take 1) = ys[j]? := by simpa [Value.cells] using h1
  rw [List.drop_eq_getElem_cons hl1, List.take_succ_cons, List.take_zero] at h2
  exact ⟨l[j], ys[j]'(by omega), List.getElem?_eq_getElem hl1, List.getElem?_eq_getElem (by omega), h2.trans (List.getElem?_eq_getElem (by omega))⟩
end
theorem list_1 {α : Type} {l : List α} {u0 : α} (h : l.length = 1) (h0 : l[0]? = some u0) : l = [u0] := by
  match l, h with
  | [c0], _ => simp_all
theorem list_2 {α : Type} {l : List α} {u0 u1 : α} (h : l.length = 2) (h0 : l[0]? = some u0) (h1 : l[1]? = some u1) : l = [u0, u1] := by
  match l, h with
  | [c0, c1], _ => simp_all
theorem list_3 {α : Type} {l : List α} {u0 u1 u2 : α} (h : l.length = 3) (h0 : l[0]? = some u0) (h1 : l[1]? = some u1) (h2 : l[2]? = some u2) : l = [u0, u1, u2] := by
  match l, h with
  | [c0, c1, c2], _ => simp_all
theorem list_4 {α : Type} {l : List α} {u0 u1 u2 u3 : α} (h : l.length = 4) (h0 : l[0]? = some u0) (h1 : l[1]? = some u1) (h2 : l[2]? = some u2) (h3 : l[3]? = some u3) : l = [u0, u1, u2, u3] := by
  match l, h with
  | [c0, c1, c2, c3], _ => simp_all
theorem list_5 {α : Type} {l : List α} {u0 u1 u2 u3 u4 : α} (h : l.length = 5) (h0 : l[0]? = some u0) (h1 : l[1]? = some u1) (h2 : l[2]? = some u2) (h3 : l[3]? = some u3) (h4 : l[4]? = some u4) : l = [u0, u1, u2, u3, u4] := by
  match l, h with
  | [c0, c1, c2, c3, c4], _ => simp_all
theorem list_6 {α : Type} {l : List α} {u0 u1 u2 u3 u4 u5 : α} (h : l.length = 6) (h0 : l[0]? = some u0) (h1 : l[1]? = some u1) (h2 : l[2]? = some u2) (h3 : l[3]? = some u3) (h4 : l[4]? = some u4) (h5 : l[5]? = some u5) : l = [u0, u1, u2, u3, u4, u5] := by
  match l, h with
  | [c0, c1, c2, c3, c4, c5], _ => simp_all
theorem list_7 {α : Type} {l : List α} {u0 u1 u2 u3 u4 u5 u6 : α} (h : l.length = 7) (h0 : l[0]? = some u0) (h1 : l[1]? = some u1) (h2 : l[2]? = some u2) (h3 : l[3]? = some u3) (h4 : l[4]? = some u4) (h5 : l[5]? = some u5) (h6 : l[6]? = some u6) : l = [u0, u1, u2, u3, u4, u5, u6] := by
  match l, h with
  | [c0, c1, c2, c3, c4, c5, c6], _ => simp_all
theorem list_8 {α : Type} {l : List α} {u0 u1 u2 u3 u4 u5 u6 u7 : α} (h : l.length = 8) (h0 : l[0]? = some u0) (h1 : l[1]? = some u1) (h2 : l[2]? = some u2) (h3 : l[3]? = some u3) (h4 : l[4]? = some u4) (h5 : l[5]? = some u5) (h6 : l[6]? = some u6) (h7 : l[7]? = some u7) : l = [u0, u1, u2, u3, u4, u5, u6, u7] := by
  match l, h with
  | [c0, c1, c2, c3, c4, c5, c6, c7], _ => simp_all
theorem list_9 {α : Type} {l : List α} {u0 u1 u2 u3 u4 u5 u6 u7 u8 : α} (h : l.length = 9) (h0 : l[0]? = some u0) (h1 : l[1]? = some u1) (h2 : l[2]? = some u2) (h3 : l[3]? = some u3) (h4 : l[4]? = some u4) (h5 : l[5]? = some u5) (h6 : l[6]? = some u6) (h7 : l[7]? = some u7) (h8 : l[8]? = some u8) : l = [u0, u1, u2, u3, u4, u5, u6, u7, u8] := by
  match l, h with
  | [c0, c1, c2, c3, c4, c5, c6, c7, c8], _ => simp_all
theorem list_10 {α : Type} {l : List α} {u0 u1 u2 u3 u4 u5 u6 u7 u8 u9 : α} (h : l.length = 10) (h0 : l[0]? = some u0) (h1 : l[1]? = some u1) (h2 : l[2]? = some u2) (h3 : l[3]? = some u3) (h4 : l[4]? = some u4) (h5 : l[5]? = some u5) (h6 : l[6]? = some u6) (h7 : l[7]? = some u7) (h8 : l[8]? = some u8) (h9 : l[9]? = some u9) : l = [u0, u1, u2, u3, u4, u5, u6, u7, u8, u9] := by
  match l, h with
  | [c0, c1, c2, c3, c4, c5, c6, c7, c8, c9], _ => simp_all
theorem list_11 {α : Type} {l : List α} {u0 u1 u2 u3 u4 u5 u6 u7 u8 u9 u10 : α} (h : l.length = 11) (h0 : l[0]? = some u0) (h1 : l[1]? = some u1) (h2 : l[2]? = some u2) (h3 : l[3]? = some u3) (h4 : l[4]? = some u4) (h5 : l[5]? = some u5) (h6 : l[6]? = some u6) (h7 : l[7]? = some u7) (h8 : l[8]? = some u8) (h9 : l[9]? = some u9) (h10 : l[10]? = some u10) : l = [u0, u1, u2, u3, u4, u5, u6, u7, u8, u9, u10] := by
  match l, h with
  | [c0, c1, c2, c3, c4, c5, c6, c7, c8, c9, c10], _ => simp_all
theorem list_12 {α : Type} {l : List α} {u0 u1 u2 u3 u4 u5 u6 u7 u8 u9 u10 u11 : α} (h : l.length = 12) (h0 : l[0]? = some u0) (h1 : l[1]? = some u1) (h2 : l[2]? = some u2) (h3 : l[3]? = some u3) (h4 : l[4]? = some u4) (h5 : l[5]? = some u5) (h6 : l[6]? = some u6) (h7 : l[7]? = some u7) (h8 : l[8]? = some u8) (h9 : l[9]? = some u9) (h10 : l[10]? = some u10) (h11 : l[11]? = some u11) : l = [u0, u1, u2, u3, u4, u5, u6, u7, u8, u9, u10, u11] := by
  match l, h with
  | [c0, c1, c2, c3, c4, c5, c6, c7, c8, c9, c10, c11], _ => simp_all
theorem u64_u8 (x : Int) : IntKind.u64.wrap (IntKind.u8.wrap x) = x % 256 := by
  rw [show IntKind.u64.wrap (IntKind.u8.wrap x) = (x % 256) % 18446744073709551616 by simp [IntKind.wrap, IntKind.bits, IntKind.signed]]; omega
/-- WHAT IS KNOWN OF THE WORLD: internal/strconv's table of tens (global 0). -/
def WF (w : World) : Prop := Lib.TabIs Tryd.prog w "internal/strconv.uint64pow10" .u64 Lib.pow10Tab
open Go.RowKit in
theorem WF.keep {w W : World} (h : WF w) (hb : Below w.heap.size w W) : WF W := by
  have hg : Tryd.prog.globalNamed "internal/strconv.uint64pow10" = some 0 := by kernel_rfl
  unfold WF Lib.TabIs World.var? at h ⊢
  rw [hg] at h ⊢
  simp only [Option.bind_some] at h ⊢
  have hlt : 0 < w.heap.size := by
    rcases Nat.lt_or_ge 0 w.heap.size with h' | h'
    · exact h'
    · rw [Array.getElem?_eq_none h'] at h; cases h
  rw [hb.block 0 hlt]
  exact h
open Go.RowKit Go.Proofs.YtcfhmbhlibhlnaaDoorW.PrintWords in
theorem tN {w W : World} (hT : Aside0 (WF w)) (h : Below w.heap.size w W := by repeat (first | (with_reducible first | exact Aside0.out ‹_› | apply dA | apply dB | apply dC | refine dE ?_ ‹_›) | exact Aside0.out ‹_›)) : Aside0 (WF W) := ⟨hT.out.keep h⟩
end Go.Proofs.YtcfhmbhlibhlnaaDoor.Mine
