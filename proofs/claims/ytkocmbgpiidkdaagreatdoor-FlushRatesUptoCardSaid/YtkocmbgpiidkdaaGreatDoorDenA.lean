import Derived.WalkKit
import Derived.Orders
import Derived.Below
import Derived.ChangeKeysEq
set_option linter.unusedVariables false
set_option linter.unusedSimpArgs false
set_option linter.unusedSectionVars false
set_option linter.constructorNameAsVariable false
namespace Go.Den
open Go Go.RowKit

/-- Where a block of the sketch lies. -/
structure Loc where
  blk : Nat
  off : Nat
  n : Nat
  ext : Nat
  sz : Nat
  wr : Bool

/-- A laying: where the sketch's blocks lie; and blocks that no one writes any more, with what they hold. -/
structure Ren where
  nm : Nat → Option Loc
  im : Nat → Option (Array Value)
instance : CoeFun Ren (fun _ => Nat → Option Loc) := ⟨Ren.nm⟩
/-- A list (n elements, by their cells) in a block that no one writes. -/
abbrev LV (cs : List Value) (n : Nat) : Value := .func (.yield n) cs.toArray #[]
/-- A pointer to the cell o of such a list. -/
abbrev LP (cs : List Value) (o : Nat) : Value := .func (.yield o) cs.toArray #[.bool true]

/-- A value of the sketch, and the machine's value that it stands for. -/
inductive VRel (ρ : Ren) : Value → Value → Prop
  | bool (b : Bool) : VRel ρ (.bool b) (.bool b)
  | int (k : IntKind) (n : Int) : VRel ρ (.int k n) (.int k n)
  | string (s : ByteArray) : VRel ρ (.string s) (.string s)
  | ptrN : VRel ρ (.pointer none) (.pointer none)
  | ptr (i o : Nat) (l : Loc) : ρ i = some l → VRel ρ (.pointer (some ⟨i, o, none⟩)) (.pointer (some ⟨l.blk, l.off + o, none⟩))
  | sliceN (n c : Nat) : VRel ρ (.slice none n c) (.slice none n c)
  | slice (i o n c : Nat) (l : Loc) (c' : Nat) : ρ i = some l → n ≤ c → o + c * l.sz ≤ l.n → (o + c * l.sz = l.n → c ≤ c' ∧ o + c' * l.sz ≤ l.ext) → (o + c * l.sz ≠ l.n → c' = c) →
      VRel ρ (.slice (some ⟨i, o, none⟩) n c) (.slice (some ⟨l.blk, l.off + o, none⟩) n c')
  | slice0 (i o : Nat) (l : Loc) (x : Nat) : ρ i = some l → VRel ρ (.slice (some ⟨i, o, none⟩) 0 0) (.slice (some ⟨l.blk, x, none⟩) 0 0)
  | lst (n : Nat) (cs arr : Array Value) (b o c' : Nat) : ρ.im b = some arr → o + cs.size ≤ arr.size → n ≤ c' → (∀ (k : Nat) (u u' : Value), cs[k]? = some u → arr[o + k]? = some u' → VRel ρ u u') →
      VRel ρ (.func (.yield n) cs #[]) (.slice (some ⟨b, o, none⟩) n c')
  | lst0 (cs : Array Value) (p : Option Addr) (c' : Nat) : VRel ρ (.func (.yield 0) cs #[]) (.slice p 0 c')
  | lptr (o : Nat) (cs arr : Array Value) (b a : Nat) : ρ.im b = some arr → a + cs.size ≤ arr.size → (∀ (k : Nat) (u u' : Value), cs[k]? = some u → arr[a + k]? = some u' → VRel ρ u u') →
      VRel ρ (.func (.yield o) cs #[.bool true]) (.pointer (some ⟨b, a + o, none⟩))
  | mapN : VRel ρ (.map none) (.map none)
  | map (i : Nat) (l : Loc) : ρ i = some l → VRel ρ (.map (some i)) (.map (some l.blk))
  | func (f : Fn) (a a' b b' : Array Value) : (∀ n, f ≠ .yield n) → a.size = a'.size → (∀ (i : Nat) (u u' : Value), a[i]? = some u → a'[i]? = some u' → VRel ρ u u') →
      b.size = b'.size → (∀ (i : Nat) (u u' : Value), b[i]? = some u → b'[i]? = some u' → VRel ρ u u') → VRel ρ (.func f a b) (.func f a' b')
  | nilFunc : VRel ρ .nilFunc .nilFunc
  | nilIface : VRel ρ .nilIface .nilIface
  | iface (t : TypeId) (v v' : Value) : VRel ρ v v' → VRel ρ (.iface t v) (.iface t v')
  | agg (a a' : Array Value) : a.size = a'.size → (∀ (i : Nat) (u u' : Value), a[i]? = some u → a'[i]? = some u' → VRel ρ u u') → VRel ρ (.agg a) (.agg a')
  | tuple (a a' : Array Value) : a.size = a'.size → (∀ (i : Nat) (u u' : Value), a[i]? = some u → a'[i]? = some u' → VRel ρ u u') → VRel ρ (.tuple a) (.tuple a')

structure Sub (ρ ρ' : Ren) : Prop where
  nm : ∀ (i : Nat) (l : Loc), ρ i = some l → ρ' i = some l
  im : ∀ (b : Nat) (a : Array Value), ρ.im b = some a → ρ'.im b = some a
theorem Sub.refl (ρ : Ren) : Sub ρ ρ := ⟨fun _ _ h => h, fun _ _ h => h⟩
theorem Sub.trans {ρ σ τ : Ren} (h : Sub ρ σ) (k : Sub σ τ) : Sub ρ τ := ⟨fun i l e => k.nm i l (h.nm i l e), fun i l e => k.im i l (h.im i l e)⟩

theorem VRel.mono {ρ ρ' : Ren} (h : Sub ρ ρ') {v v' : Value} (hv : VRel ρ v v') : VRel ρ' v v' := by
  induction hv with
  | bool b => exact .bool b
  | int k n => exact .int k n
  | string s => exact .string s
  | ptrN => exact .ptrN
  | ptr i o l hl => exact .ptr i o l (h.nm _ _ hl)
  | sliceN n c => exact .sliceN n c
  | slice i o n c l c' hl h1 h2 h3 h4 => exact .slice i o n c l c' (h.nm _ _ hl) h1 h2 h3 h4
  | slice0 i o l x hl => exact .slice0 i o l x (h.nm _ _ hl)
  | lst n cs arr b o c' h1 h2 h3 _ ih => exact .lst n cs arr b o c' (h.im _ _ h1) h2 h3 ih
  | lst0 cs p c' => exact .lst0 cs p c'
  | lptr o cs arr b a h1 h2 _ ih => exact .lptr o cs arr b a (h.im _ _ h1) h2 ih
  | mapN => exact .mapN
  | map i l hl => exact .map i l (h.nm _ _ hl)
  | func f a a' b b' h0 h1 h2 h3 h4 ih1 ih2 =>
    exact .func f a a' b b' h0 h1 ih1 h3 ih2
  | nilFunc => exact .nilFunc
  | nilIface => exact .nilIface
  | iface t v v' _ ih => exact .iface t v v' ih
  | agg a a' h1 h2 ih => exact .agg a a' h1 ih
  | tuple a a' h1 h2 ih => exact .tuple a a' h1 ih

/-- Values without an address: they stand for themselves. -/
def AF (v : Value) : Prop := ∀ ρ v', VRel ρ v v' ↔ v' = v

theorem AF.rel {v : Value} (h : AF v) (ρ : Ren) : VRel ρ v v := (h ρ v).mpr rfl
theorem AF.eq {v v' : Value} {ρ : Ren} (h : AF v) (r : VRel ρ v v') : v' = v := (h ρ v').mp r
theorem AF.bool (b : Bool) : AF (.bool b) := fun ρ v' => ⟨fun h => by cases h; rfl, fun h => by subst h; exact .bool b⟩
theorem AF.int (k : IntKind) (n : Int) : AF (.int k n) := fun ρ v' => ⟨fun h => by cases h; rfl, fun h => by subst h; exact .int k n⟩
theorem AF.string (s : ByteArray) : AF (.string s) := fun ρ v' => ⟨fun h => by cases h; rfl, fun h => by subst h; exact .string s⟩
theorem AF.ptrN : AF (.pointer none) := fun ρ v' => ⟨fun h => by cases h; rfl, fun h => by subst h; exact .ptrN⟩
theorem AF.sliceN (n c : Nat) : AF (.slice none n c) := fun ρ v' => ⟨fun h => by cases h; rfl, fun h => by subst h; exact .sliceN n c⟩
theorem AF.mapN : AF (.map none) := fun ρ v' => ⟨fun h => by cases h; rfl, fun h => by subst h; exact .mapN⟩
theorem AF.nilFunc : AF .nilFunc := fun ρ v' => ⟨fun h => by cases h; rfl, fun h => by subst h; exact .nilFunc⟩
theorem AF.nilIface : AF .nilIface := fun ρ v' => ⟨fun h => by cases h; rfl, fun h => by subst h; exact .nilIface⟩

theorem arr_eq {ρ : Ren} {a a' : Array Value} (h : ∀ v ∈ a, AF v) (hs : a.size = a'.size)
    (hr : ∀ (i : Nat) (u u' : Value), a[i]? = some u → a'[i]? = some u' → VRel ρ u u') : a' = a := by
  apply Array.ext hs.symm
  intro i h1 h2
  exact (h a[i] (Array.getElem_mem h2)).eq (hr i a[i] a'[i] (by simp [h2]) (by simp [h1]))
theorem arr_refl {ρ : Ren} {a : Array Value} (h : ∀ v ∈ a, AF v) (i : Nat) (u u' : Value) (e : a[i]? = some u) (e' : a[i]? = some u') : VRel ρ u u' := by
  rw [e] at e'; cases e'; exact (h u (Array.mem_of_getElem? e)).rel ρ
theorem AF.agg {a : Array Value} (h : ∀ v ∈ a, AF v) : AF (.agg a) := fun ρ v' =>
  ⟨fun r => by cases r with | agg _ a' hs hr => rw [arr_eq h hs hr], fun e => by subst e; exact .agg a a rfl (arr_refl h)⟩
theorem AF.tuple {a : Array Value} (h : ∀ v ∈ a, AF v) : AF (.tuple a) := fun ρ v' =>
  ⟨fun r => by cases r with | tuple _ a' hs hr => rw [arr_eq h hs hr], fun e => by subst e; exact .tuple a a rfl (arr_refl h)⟩
theorem AF.iface {t : TypeId} {v : Value} (h : AF v) : AF (.iface t v) := fun ρ v' =>
  ⟨fun r => by cases r with | iface _ _ u hr => rw [h.eq hr], fun e => by subst e; exact .iface t v v (h.rel ρ)⟩
def notY : Fn → Bool
  | .yield _ => false
  | _ => true
theorem notY_ne {f : Fn} (h : notY f = true) (n : Nat) : f ≠ .yield n := fun e => by rw [e] at h; cases h
theorem AF.func {f : Fn} {a b : Array Value} (hf : notY f = true) (h : ∀ v ∈ a, AF v) (k : ∀ v ∈ b, AF v) : AF (.func f a b) := by
  intro ρ v'
  constructor
  · intro r
    cases r with
    | func _ _ a' _ b' _ hs hr hs' hr' => rw [arr_eq h hs hr, arr_eq k hs' hr']
    | lst _ _ _ _ _ _ _ _ _ _ => cases hf
    | lst0 _ _ _ => cases hf
    | lptr _ _ _ _ _ _ _ _ => cases hf
  · intro e
    subst e
    exact .func f a a b b (notY_ne hf) rfl (arr_refl h) rfl (arr_refl k)

/-- The test on constants. -/
def cl1 : Value → Bool
  | .bool _ | .int _ _ | .string _ | .pointer none | .slice none _ _ | .map none | .nilFunc | .nilIface => true
  | _ => false
def cl : Value → Bool
  | .agg cs => cs.toList.all cl1
  | .tuple cs => cs.toList.all cl1
  | .func f a b => notY f && a.isEmpty && b.isEmpty
  | v => cl1 v
theorem cl1_af : ∀ {v : Value}, cl1 v = true → AF v
  | .bool b, _ => .bool b
  | .int k n, _ => .int k n
  | .string s, _ => .string s
  | .pointer none, _ => .ptrN
  | .slice none n c, _ => .sliceN n c
  | .map none, _ => .mapN
  | .nilFunc, _ => .nilFunc
  | .nilIface, _ => .nilIface
theorem cl_af {v : Value} (h : cl v = true) : AF v := by
  unfold cl at h
  split at h
  · exact .agg fun v hv => cl1_af (List.all_eq_true.mp h v (Array.mem_toList_iff.mpr hv))
  · exact .tuple fun v hv => cl1_af (List.all_eq_true.mp h v (Array.mem_toList_iff.mpr hv))
  · simp only [Bool.and_eq_true, Array.isEmpty_iff] at h
    obtain ⟨⟨hf, rfl⟩, rfl⟩ := h
    exact .func hf (by simp) (by simp)
  · exact cl1_af h

/-! ### the sketch of the memory -/
inductive ABlk where
  | free
  | dead
  | cells (cs : List Value) (sz : Nat) (wr spare : Bool) (ty : TypeId)
  | iter (s : ByteArray) (pos : Nat)
  | map (es : List MapEntry) (clock : Nat)
def ABlk.live : ABlk → Bool
  | .free | .dead => false
  | _ => true
abbrev AHeap := List ABlk

def BRel (ρ : Ren) (l : Loc) (w : World) : ABlk → Prop
  | .free => False
  | .dead => True
  | .cells cs sz wr spare ty => sz = l.sz ∧ 0 < sz ∧ wr = l.wr ∧ (spare = false → l.ext = l.n) ∧ cs.length = l.n ∧ l.n ≤ l.ext ∧
      ∃ c e fr, e = ty ∧ w.heap[l.blk]? = some (.cells c e fr) ∧ l.off + l.ext ≤ c.size ∧
        (∀ (k : Nat) (v : Value), cs[k]? = some v → ∃ v' : Value, c[l.off + k]? = some v' ∧ VRel ρ v v') ∧
        (wr = true → ∀ k, l.off ≤ k → k < l.off + l.ext → (decide (fr.1 ≤ k) && decide (k < fr.2)) = false) ∧ (spare = false → l.off = 0 ∧ c.size = l.n)
  | .iter s pos => l.wr = true ∧ l.off = 0 ∧ w.heap[l.blk]? = some (.stringIter s pos)
  | .map es ck => l.wr = true ∧ ∃ es' : Array MapEntry, w.heap[l.blk]? = some (.map es' ck) ∧ es'.size = es.length ∧
      ∀ (k : Nat) (e : MapEntry), es[k]? = some e → ∃ e' : MapEntry, es'[k]? = some e' ∧ e'.key = e.key ∧ AF e.key ∧ e'.born = e.born ∧ VRel ρ e.val e'.val

/-- The sketch h of the world w, under the laying ρ; W0: the world when the call began. -/
structure Rel (W0 : World) (ρ : Ren) (h : AHeap) (w : World) : Prop where
  blk : ∀ (i : Nat) (l : Loc) (b : ABlk), ρ i = some l → h[i]? = some b → BRel ρ l w b
  dom : ∀ (i : Nat) (l : Loc), ρ i = some l → i < h.length
  sep : ∀ (i j : Nat) (l m : Loc) (b c : ABlk), ρ i = some l → ρ j = some m → i ≠ j → h[i]? = some b → b.live = true → h[j]? = some c → c.live = true → l.wr = true → l.blk ≠ m.blk
  low : Below W0.heap.size W0 w
  high : ∀ (i : Nat) (l : Loc), ρ i = some l → l.wr = true → W0.heap.size ≤ l.blk
  room : ∀ (i : Nat) (l : Loc), ρ i = some l → l.blk < w.heap.size
  tot : ∀ (i : Nat) (b : ABlk), h[i]? = some b → b.live = true → ∃ l, ρ i = some l
  imm : ∀ (b : Nat) (a : Array Value), ρ.im b = some a → ∃ (t : TypeId) (fr : Nat × Nat), w.heap[b]? = some (.cells a t fr)
  isep : ∀ (i : Nat) (l : Loc) (b : ABlk), ρ i = some l → h[i]? = some b → b.live = true → l.wr = true → ρ.im l.blk = none

/-- What a step may do. -/
structure Ext (ρ : Ren) (w : World) (ρ' : Ren) (w' : World) : Prop where
  sub : Sub ρ ρ'
  own : ∀ (i : Nat) (l : Loc), ρ' i = some l → l.wr = true → (∃ (j : Nat) (m : Loc), ρ j = some m ∧ m.wr = true ∧ m.blk = l.blk) ∨ w.heap.size ≤ l.blk
  size : w.heap.size ≤ w'.heap.size
  keep : ∀ b, b < w.heap.size → (∀ (i : Nat) (l : Loc), ρ i = some l → l.wr = true → l.blk ≠ b) → w'.heap[b]? = w.heap[b]?
  os : w'.os = w.os
  tape : w'.tape = w.tape
  output : w'.output = w.output
  iown : ∀ (b : Nat) (a : Array Value), ρ'.im b = some a → ρ.im b = some a ∨ w.heap.size ≤ b ∨ ∃ (j : Nat) (m : Loc), ρ j = some m ∧ m.wr = true ∧ m.blk = b

theorem Ext.refl (ρ : Ren) (w : World) : Ext ρ w ρ w :=
  ⟨Sub.refl ρ, fun i l h k => .inl ⟨i, l, h, k, rfl⟩, Nat.le_refl _, fun _ _ _ => rfl, rfl, rfl, rfl, fun _ _ h => .inl h⟩
theorem Ext.trans {ρ σ τ : Ren} {a b c : World} (h : Ext ρ a σ b) (k : Ext σ b τ c) : Ext ρ a τ c := by
  refine ⟨h.sub.trans k.sub, ?_, Nat.le_trans h.size k.size, ?_, k.os.trans h.os, k.tape.trans h.tape, k.output.trans h.output, ?_⟩
  · intro i l hi hw
    rcases k.own i l hi hw with ⟨j, m, hj, hm, e⟩ | hle
    · rcases h.own j m hj hm with ⟨j', m', hj', hm', e'⟩ | hle
      · exact .inl ⟨j', m', hj', hm', e'.trans e⟩
      · exact .inr (by omega)
    · exact .inr (Nat.le_trans h.size hle)
  · intro x hx hn
    rw [k.keep x (Nat.lt_of_lt_of_le hx h.size) ?_, h.keep x hx hn]
    intro i l hi hw e
    rcases h.own i l hi hw with ⟨j, m, hj, hm, e'⟩ | hle
    · exact hn j m hj hm (e'.trans e)
    · omega
  · intro x y hx
    rcases k.iown x y hx with q | q | ⟨j, m, hj, hm, e⟩
    · exact h.iown x y q
    · exact .inr (.inl (Nat.le_trans h.size q))
    · rcases h.own j m hj hm with ⟨j', m', hj', hm', e'⟩ | hle
      · exact .inr (.inr ⟨j', m', hj', hm', e'.trans e⟩)
      · exact .inr (.inl (by omega))

/-- The same, where only the first M names stay. -/
structure ExtN (M : Nat) (ρ : Ren) (w : World) (ρ' : Ren) (w' : World) : Prop where
  sub : ∀ (i : Nat) (l : Loc), i < M → ρ i = some l → ρ' i = some l
  im : ∀ (b : Nat) (a : Array Value), ρ.im b = some a → ρ'.im b = some a
  own : ∀ (i : Nat) (l : Loc), ρ' i = some l → l.wr = true → (∃ (j : Nat) (m : Loc), ρ j = some m ∧ m.wr = true ∧ m.blk = l.blk) ∨ w.heap.size ≤ l.blk
  size : w.heap.size ≤ w'.heap.size
  keep : ∀ b, b < w.heap.size → (∀ (i : Nat) (l : Loc), ρ i = some l → l.wr = true → l.blk ≠ b) → w'.heap[b]? = w.heap[b]?
  os : w'.os = w.os
  tape : w'.tape = w.tape
  output : w'.output = w.output
  iown : ∀ (b : Nat) (a : Array Value), ρ'.im b = some a → ρ.im b = some a ∨ w.heap.size ≤ b ∨ ∃ (j : Nat) (m : Loc), ρ j = some m ∧ m.wr = true ∧ m.blk = b
theorem Ext.toN {ρ ρ' : Ren} {w w' : World} (h : Ext ρ w ρ' w') (M : Nat) : ExtN M ρ w ρ' w' :=
  ⟨fun i l _ k => h.sub.nm i l k, h.sub.im, h.own, h.size, h.keep, h.os, h.tape, h.output, h.iown⟩
theorem ExtN.ext {M : Nat} {ρ ρ' : Ren} {w w' : World} (h : ExtN M ρ w ρ' w') (hd : ∀ i l, ρ i = some l → i < M) : Ext ρ w ρ' w' :=
  ⟨⟨fun i l k => h.sub i l (hd i l k) k, h.im⟩, h.own, h.size, h.keep, h.os, h.tape, h.output, h.iown⟩
theorem ExtN.refl (M : Nat) (ρ : Ren) (w : World) : ExtN M ρ w ρ w := (Ext.refl ρ w).toN M
theorem ExtN.trans {M : Nat} {ρ σ τ : Ren} {a b c : World} (h : ExtN M ρ a σ b) (k : ExtN M σ b τ c) : ExtN M ρ a τ c := by
  refine ⟨fun i l hi e => k.sub i l hi (h.sub i l hi e), fun b a e => k.im b a (h.im b a e), ?_, Nat.le_trans h.size k.size, ?_, k.os.trans h.os, k.tape.trans h.tape, k.output.trans h.output, ?_⟩
  · intro i l hi hw
    rcases k.own i l hi hw with ⟨j, m, hj, hm, e⟩ | hle
    · rcases h.own j m hj hm with ⟨j', m', hj', hm', e'⟩ | hle
      · exact .inl ⟨j', m', hj', hm', e'.trans e⟩
      · exact .inr (by omega)
    · exact .inr (Nat.le_trans h.size hle)
  · intro x hx hn
    rw [k.keep x (Nat.lt_of_lt_of_le hx h.size) ?_, h.keep x hx hn]
    intro i l hi hw e
    rcases h.own i l hi hw with ⟨j, m, hj, hm, e'⟩ | hle
    · exact hn j m hj hm (e'.trans e)
    · omega
  · intro x y hx
    rcases k.iown x y hx with q | q | ⟨j, m, hj, hm, e⟩
    · exact h.iown x y q
    · exact .inr (.inl (Nat.le_trans h.size q))
    · rcases h.own j m hj hm with ⟨j', m', hj', hm', e'⟩ | hle
      · exact .inr (.inr ⟨j', m', hj', hm', e'.trans e⟩)
      · exact .inr (.inl (by omega))

/-! ### temporaries -/
abbrev Env := List (Nat × Option Value)
def Env.get : Env → Nat → Option Value
  | [], _ => none
  | (t, v) :: r, u => bif Nat.beq t u then v else Env.get r u
def Env.put (e : Env) (d : Option Nat) (v : Option Value) : Env :=
  match d with
  | some d => (d, v) :: e
  | none => e
def ERel (ρ : Ren) (e : Env) (tmps : Array Value) : Prop :=
  ∀ (t : Nat) (v : Value), e.get t = some v → ∃ v' : Value, tmps[t]? = some v' ∧ VRel ρ v v'

theorem ERel.mono {ρ ρ' : Ren} {e : Env} {tmps : Array Value} (h : ERel ρ e tmps) (s : Sub ρ ρ') : ERel ρ' e tmps :=
  fun t v k => let ⟨v', p, q⟩ := h t v k; ⟨v', p, q.mono s⟩
theorem Env.get_cons (t : Nat) (v : Option Value) (e : Env) (u : Nat) : Env.get ((t, v) :: e) u = if t = u then v else e.get u := by
  show (bif Nat.beq t u then v else Env.get e u) = _
  by_cases h : t = u
  · subst h; simp
  · have : Nat.beq t u = false := by
      cases hb : Nat.beq t u with
      | false => rfl
      | true => exact absurd (Nat.eq_of_beq_eq_true hb) h
    rw [this, if_neg h]; rfl
theorem ERel.put {ρ : Ren} {e : Env} {tmps : Array Value} {d : Nat} {v v' : Value} (h : ERel ρ e tmps) (hd : d < tmps.size) (r : VRel ρ v v') :
    ERel ρ ((d, some v) :: e) (tmps.setIfInBounds d v') := by
  intro t u k
  rw [Env.get_cons] at k
  by_cases ht : d = t
  · subst ht
    rw [if_pos rfl] at k
    cases k
    exact ⟨v', by simp [hd], r⟩
  · rw [if_neg ht] at k
    obtain ⟨u', p, q⟩ := h t u k
    exact ⟨u', by rw [Array.getElem?_setIfInBounds_ne ht]; exact p, q⟩
theorem ERel.drop {ρ : Ren} {e : Env} {tmps : Array Value} {d : Nat} (v' : Value) (h : ERel ρ e tmps) :
    ERel ρ ((d, none) :: e) (tmps.setIfInBounds d v') := by
  intro t u k
  rw [Env.get_cons] at k
  by_cases ht : d = t
  · subst ht; rw [if_pos rfl] at k; cases k
  · rw [if_neg ht] at k
    obtain ⟨u', p, q⟩ := h t u k
    exact ⟨u', by rw [Array.getElem?_setIfInBounds_ne ht]; exact p, q⟩
def evO (e : Env) : Operand → Option Value
  | .tmp t => e.get t
  | .const v => bif cl v then some v else none
  | .func f => some (.func (.func f) #[] #[])
  | .global _ => none
theorem evO_rel {ρ : Ren} {e : Env} {a : Act} (h : ERel ρ e a.tmps) {x : Operand} {v : Value} (k : evO e x = some v) : VRel ρ v (a.eval x) := by
  cases x with
  | tmp t =>
    obtain ⟨v', p, q⟩ := h t v k
    show VRel ρ v (a.tmps.getD t undef)
    rw [Array.getD_eq_getD_getElem?, p]; exact q
  | const u =>
    simp only [evO] at k
    cases hc : cl u with
    | true => rw [hc] at k; cases k; exact (cl_af hc).rel ρ
    | false => rw [hc] at k; cases k
  | global g => cases k
  | func f => cases k; exact (AF.func rfl (by simp) (by simp)).rel ρ
end Go.Den
namespace Go.Den
open Go Go.RowKit

def hset (h : AHeap) : List (Nat × ABlk) → AHeap
  | [] => h
  | (i, b) :: r => hset (h.set i b) r
/-- New blocks, in a row of free places. -/
def alAt : Nat → List ABlk → List (Nat × ABlk)
  | _, [] => []
  | n, b :: r => (n, b) :: alAt (n + 1) r

/-- The operands read as the sketch says. -/
def Opd (ρ : Ren) (e : Env) (o : Oper) (a : Act) : Prop := ∀ x ∈ o.op.operands, ∀ v, evO e x = some v → VRel ρ v (a.eval x)
theorem ERel.opd {ρ : Ren} {e : Env} {a : Act} (h : ERel ρ e a.tmps) (o : Oper) : Opd ρ e o a := fun _ _ _ k => evO_rel h k

/-- What an operation does, in every world that the sketch fits: it reads the blocks rd, writes wr, makes al, yields v. -/
def OpSem (P : Program) (W0 : World) (o : Oper) (e : Env) (rd wr al : List (Nat × ABlk)) (v : Option Value) : Prop :=
  ∀ (ρ : Ren) (h : AHeap) (w : World) (a : Act), Rel W0 ρ h w → Opd ρ e o a → (∀ p ∈ rd, h[p.1]? = some p.2) → (∀ p ∈ al, h[p.1]? = some .free) →
    ∀ (next : Act → World → Prop) (Q : Exit → Act → World → Prop),
      (∀ (v' : Value) (ρ' : Ren) (w' : World), (∀ u, v = some u → VRel ρ' u v') → Ext ρ w ρ' w' → Rel W0 ρ' (hset (hset h wr) al) w' → next (a.put o.dst v') w') →
      o.wp P a w next Q

/-- An operation that leaves the world as it is. -/
theorem OpSem.of_run {P : Program} {W0 : World} {o : Oper} {e : Env} {rd : List (Nat × ABlk)} {v : Value}
    (H : ∀ (ρ : Ren) (h : AHeap) (w : World) (a : Act), Rel W0 ρ h w → Opd ρ e o a → (∀ p ∈ rd, h[p.1]? = some p.2) →
      ∃ v', VRel ρ v v' ∧ (execOp a.eval o).run P w = .ok (.value v') w) : OpSem P W0 o e rd [] [] (some v) := by
  intro ρ h w a hR hO hrd _ next Q hn
  obtain ⟨v', hv, hr⟩ := H ρ h w a hR hO hrd
  unfold Oper.wp
  rw [hr]
  exact hn v' ρ w (fun u hu => by cases hu; exact hv) (Ext.refl ρ w) hR

theorem opSem_move {P : Program} {W0 : World} {o : Oper} {e : Env} {x : Operand} {v : Value} (ho : o.op = .move x ∨ o.op = .assign x) (hv : evO e x = some v) :
    OpSem P W0 o e [] [] [] (some v) := .of_run fun ρ h w a hR hO _ => by
  refine ⟨a.eval x, hO x ?_ v hv, ?_⟩
  · rcases ho with ho | ho <;> simp [ho, Op.operands]
  · rcases ho with ho | ho <;> simp [execOp, ho]

/-- Operations whose Sem is a function of the operands that are without addresses. -/
theorem opSem_pure2 {P : Program} {W0 : World} {o : Oper} {e : Env} {x y : Operand} {u v r : Value} (hx : x ∈ o.op.operands) (hy : y ∈ o.op.operands) (hu : evO e x = some u) (hv : evO e y = some v)
    (au : AF u) (av : AF v) (ar : AF r) (H : ∀ (w : World) (ev : Operand → Value), ev x = u → ev y = v → (execOp ev o).run P w = .ok (.value r) w) : OpSem P W0 o e [] [] [] (some r) :=
  .of_run fun ρ h w a hR hO _ => ⟨r, ar.rel ρ, H w a.eval (au.eq (hO x hx u hu)) (av.eq (hO y hy v hv))⟩
theorem opSem_pure1 {P : Program} {W0 : World} {o : Oper} {e : Env} {x : Operand} {u r : Value} (hx : x ∈ o.op.operands) (hu : evO e x = some u)
    (au : AF u) (ar : AF r) (H : ∀ (w : World) (ev : Operand → Value), ev x = u → (execOp ev o).run P w = .ok (.value r) w) : OpSem P W0 o e [] [] [] (some r) :=
  .of_run fun ρ h w a hR hO _ => ⟨r, ar.rel ρ, H w a.eval (au.eq (hO x hx u hu))⟩


/-! ### two operands -/
def keq : IntKind → IntKind → Bool
  | .i8, .i8 | .i16, .i16 | .i32, .i32 | .i64, .i64 | .u8, .u8 | .u16, .u16 | .u32, .u32 | .u64, .u64 => true
  | _, _ => false
theorem keq_eq {j k : IntKind} (h : keq j k = true) : j = k := by cases j <;> cases k <;> first | rfl | cases h
def shlV (k : IntKind) (a b : Int) : Int := k.wrap (a * 2 ^ min b.toNat k.bits)
def shrV (k : IntKind) (a b : Int) : Int := a.fdiv (2 ^ min b.toNat k.bits)
/-- No 0 to divide by; no shift below 0. -/
def NzB (b : Int) : Prop := b ≠ 0
theorem NzB.mk {b : Int} (h : b ≠ 0) : NzB b := h
theorem NzB.ne {b : Int} (h : NzB b) : b ≠ 0 := h
def ShB (b : Int) : Prop := 0 ≤ b
theorem ShB.mk {b : Int} (h : 0 ≤ b) : ShB b := h
theorem ShB.le {b : Int} (h : ShB b) : 0 ≤ b := h
attribute [irreducible] NzB ShB
def intK (op : BinOp) (k : IntKind) (a b : Int) (K : Value → Prop) : Prop :=
  match op with
  | .add => K (.int k (k.wrap (a + b)))
  | .sub => K (.int k (k.wrap (a - b)))
  | .mul => K (.int k (k.wrap (a * b)))
  | .quo => NzB b ∧ K (.int k (k.wrap (a.tdiv b)))
  | .rem => NzB b ∧ K (.int k (a.tmod b))
  | .and => K (.int k (Go.bits .and k a b))
  | .or => K (.int k (Go.bits .or k a b))
  | .xor => K (.int k (Go.bits .xor k a b))
  | .andNot => K (.int k (Go.bits .andNot k a b))
  | .eql => K (.bool (decide (a = b)))
  | .neq => K (.bool (!decide (a = b)))
  | .lss => K (.bool (decide (a < b)))
  | .leq => K (.bool (decide (a ≤ b)))
  | .gtr => K (.bool (decide (b < a)))
  | .geq => K (.bool (decide (b ≤ a)))
  | _ => False
def strLt (a b : ByteArray) : Bool := Op.bytesLess a.data.toList b.data.toList
def strK (op : BinOp) (a b : ByteArray) (K : Value → Prop) : Prop :=
  match op with
  | .add => a.size + b.size ≤ 9223372036854775807 ∧ K (.string (a ++ b))
  | .eql => K (.bool (decide (a = b)))
  | .neq => K (.bool (!decide (a = b)))
  | .lss => K (.bool (strLt a b))
  | .leq => K (.bool (strLt a b || decide (a = b)))
  | .gtr => K (.bool (!(strLt a b || decide (a = b))))
  | .geq => K (.bool (!strLt a b))
  | _ => False
theorem toList_decide (a b : ByteArray) : (a.data.toList == b.data.toList) = decide (a = b) := by
  obtain ⟨⟨x⟩⟩ := a
  obtain ⟨⟨y⟩⟩ := b
  simp only [ByteArray.mk.injEq, Array.mk.injEq]
  rw [Bool.eq_iff_iff]; simp
def shiftK (op : BinOp) (k : IntKind) (a b : Int) (K : Value → Prop) : Prop :=
  match op with
  | .shl => ShB b ∧ K (.int k (shlV k a b))
  | .shr => ShB b ∧ K (.int k (shrV k a b))
  | _ => False
def isShift : BinOp → Bool
  | .shl | .shr => true
  | _ => false
theorem binOp_shift (op : BinOp) (t : TypeId) (k yk : IntKind) (a b : Int) (h : isShift op = true) : binOp op t (.int k a) (.int yk b) = Op.shift op k a yk b := by
  cases op <;> first | rfl | cases h
theorem shiftK_run {op : BinOp} {k yk : IntKind} {a b : Int} {K : Value → Prop} (h : shiftK op k a b K) :
    ∃ r, K r ∧ AF r ∧ isShift op = true ∧ ∀ (P : Program) (w : World), (Op.shift op k a yk b).run P w = .ok r w := by
  cases op <;> simp only [shiftK] at h
  case shl => exact ⟨_, h.2, .int _ _, rfl, fun P w => by simp [Op.shift, shlV, Int.not_lt.mpr h.1.le]⟩
  case shr => exact ⟨_, h.2, .int _ _, rfl, fun P w => by simp [Op.shift, shrV, Int.not_lt.mpr h.1.le]⟩
theorem intK_run {op : BinOp} {k : IntKind} {a b : Int} {K : Value → Prop} (h : intK op k a b K) :
    ∃ r, K r ∧ AF r ∧ ∀ (P : Program) (w : World) (t : TypeId), (binOp op t (.int k a) (.int k b)).run P w = .ok r w := by
  cases op <;> simp only [intK] at h
  case add => exact ⟨_, h, .int _ _, fun P w t => by simp [binOp, Op.intArith]⟩
  case sub => exact ⟨_, h, .int _ _, fun P w t => by simp [binOp, Op.intArith]⟩
  case mul => exact ⟨_, h, .int _ _, fun P w t => by simp [binOp, Op.intArith]⟩
  case quo => exact ⟨_, h.2, .int _ _, fun P w t => by simp [binOp, Op.intDiv, h.1.ne]⟩
  case rem => exact ⟨_, h.2, .int _ _, fun P w t => by simp [binOp, Op.intDiv, h.1.ne]⟩
  case and => exact ⟨_, h, .int _ _, fun P w t => by simp [binOp, intBits_and]⟩
  case or => exact ⟨_, h, .int _ _, fun P w t => by simp [binOp, intBits_or]⟩
  case xor => exact ⟨_, h, .int _ _, fun P w t => by simp [binOp, intBits_xor]⟩
  case andNot => exact ⟨_, h, .int _ _, fun P w t => by simp [binOp, intBits_andNot]⟩
  case eql => exact ⟨_, h, .bool _, fun P w t => by simp [binOp, Op.intCmp]; rfl⟩
  case neq => exact ⟨_, h, .bool _, fun P w t => by simp [binOp, Op.intCmp]; rfl⟩
  case lss => exact ⟨_, h, .bool _, fun P w t => by simp [binOp, Op.intCmp]⟩
  case leq => exact ⟨_, h, .bool _, fun P w t => by simp [binOp, Op.intCmp]⟩
  case gtr => exact ⟨_, h, .bool _, fun P w t => by simp [binOp, Op.intCmp]⟩
  case geq => exact ⟨_, h, .bool _, fun P w t => by simp [binOp, Op.intCmp]⟩
theorem strK_run {op : BinOp} {a b : ByteArray} {K : Value → Prop} (h : strK op a b K) :
    ∃ r, K r ∧ AF r ∧ ∀ (P : Program) (w : World) (t : TypeId), (binOp op t (.string a) (.string b)).run P w = .ok r w := by
  cases op <;> simp only [strK] at h
  case add => exact ⟨_, h.2, .string _, fun P w t => by
    rw [show binOp .add t (.string a) (.string b) = Op.stringOp .add a b from rfl]; exact run_string_add_sum (P := P) (w := w) a b h.1⟩
  all_goals first
    | exact ⟨_, h, .bool _, fun P w t => by simp only [binOp, Op.stringOp, ByteArray.toList_eq, toList_decide, strLt, Sem.run_pure]⟩
end Go.Den
namespace Go.Den
open Go Go.RowKit

/-! ### the memory -/
def upd (ρ : Ren) (i : Nat) (l : Loc) : Ren := ⟨fun j => if j = i then some l else ρ j, ρ.im⟩
theorem upd_same (ρ : Ren) (i : Nat) (l : Loc) : upd ρ i l i = some l := by simp [upd]
theorem upd_ne {ρ : Ren} {i j : Nat} {l : Loc} (h : j ≠ i) : upd ρ i l j = ρ j := by simp [upd, h]
theorem Rel.none_of_free {W0 : World} {ρ : Ren} {h : AHeap} {w : World} (hR : Rel W0 ρ h w) {i : Nat} (hf : h[i]? = some .free) : ρ i = none := by
  cases hρ : ρ i with
  | none => rfl
  | some l => exact (hR.blk i l .free hρ hf).elim
theorem sub_upd {ρ : Ren} {i : Nat} {l : Loc} (h : ρ i = none) : Sub ρ (upd ρ i l) := ⟨fun j m hj => by
  by_cases e : j = i
  · subst e; rw [h] at hj; cases hj
  · rw [upd_ne e]; exact hj, fun _ _ z => z⟩
theorem Rel.im_room {W0 : World} {ρ : Ren} {h : AHeap} {w : World} (hR : Rel W0 ρ h w) {b : Nat} {a : Array Value} (e : ρ.im b = some a) : b < w.heap.size := by
  obtain ⟨t, fr, q⟩ := hR.imm b a e
  rcases Nat.lt_or_ge b w.heap.size with k | k
  · exact k
  · rw [Array.getElem?_eq_none k] at q; cases q
theorem Rel.im_none {W0 : World} {ρ : Ren} {h : AHeap} {w : World} (hR : Rel W0 ρ h w) {b : Nat} (e : w.heap.size ≤ b) : ρ.im b = none := by
  cases q : ρ.im b with
  | none => rfl
  | some a => have := hR.im_room q; omega

theorem BRel.mono {ρ ρ' : Ren} (s : Sub ρ ρ') {l : Loc} {w w' : World} (hb : w'.heap[l.blk]? = w.heap[l.blk]?) : ∀ {b : ABlk}, BRel ρ l w b → BRel ρ' l w' b
  | .free, h => h
  | .dead, _ => trivial
  | .cells cs sz wr sp ty, ⟨h1, h2, h3, h4, h5, h6, c, e, fr, hty, h7, h8, h9, h10⟩ =>
    ⟨h1, h2, h3, h4, h5, h6, c, e, fr, hty, hb.trans h7, h8, fun k v hk => let ⟨v', p, q⟩ := h9 k v hk; ⟨v', p, q.mono s⟩, h10⟩
  | .iter s' pos, ⟨h1, h0, h2⟩ => ⟨h1, h0, hb.trans h2⟩
  | .map es ck, ⟨h1, es', h2, h3, h4⟩ => ⟨h1, es', hb.trans h2, h3, fun k e hk => let ⟨e', p, q, r, t, u⟩ := h4 k e hk; ⟨e', p, q, r, t, u.mono s⟩⟩

/-- A new block of the machine, laid in a free place of the sketch. -/
theorem rel_alloc {W0 : World} {ρ : Ren} {h : AHeap} {w : World} (hR : Rel W0 ρ h w) {i : Nat} (hf : h[i]? = some .free) (o : Obj) (b : ABlk) (l : Loc)
    (hl : l.blk = w.heap.size) (hw : l.wr = true) (hb : ∀ ρ' : Ren, Sub ρ ρ' → BRel ρ' l (w.alloc o) b) :
    Rel W0 (upd ρ i l) (h.set i b) (w.alloc o) ∧ Ext ρ w (upd ρ i l) (w.alloc o) := by
  have hn := hR.none_of_free hf
  have hs : Sub ρ (upd ρ i l) := sub_upd hn
  have hi : i < h.length := by
    rcases Nat.lt_or_ge i h.length with k | k
    · exact k
    · rw [List.getElem?_eq_none k] at hf; cases hf
  have hold : ∀ k, k < w.heap.size → (w.alloc o).heap[k]? = w.heap[k]? := fun k hk => Below.heap_alloc w o k hk
  have hsz : (w.alloc o).heap.size = w.heap.size + 1 := by simp
  refine ⟨⟨?_, ?_, ?_, ?_, ?_, ?_, ?_, ?_, ?_⟩, ⟨hs, ?_, by omega, fun k hk _ => hold k hk, rfl, rfl, rfl, fun _ _ z => .inl z⟩⟩
  · intro j m c hj hc
    by_cases e : j = i
    · subst e
      rw [upd_same] at hj; cases hj
      rw [List.getElem?_set_self hi] at hc; cases hc
      exact hb _ hs
    · rw [upd_ne e] at hj
      rw [List.getElem?_set_ne (Ne.symm e)] at hc
      exact (hR.blk j m c hj hc).mono hs (hold _ (hR.room j m hj))
  · intro j m hj
    rw [List.length_set]
    by_cases e : j = i
    · subst e; exact hi
    · rw [upd_ne e] at hj; exact hR.dom j m hj
  · intro j k m n c d hj hk hjk hc hcl hd hdl hmw
    by_cases e : j = i
    · subst e
      rw [upd_same] at hj; cases hj
      rw [upd_ne (Ne.symm hjk)] at hk
      have := hR.room k n hk
      omega
    · rw [upd_ne e] at hj
      rw [List.getElem?_set_ne (Ne.symm e)] at hc
      by_cases e' : k = i
      · subst e'
        rw [upd_same] at hk; cases hk
        have := hR.room j m hj
        omega
      · rw [upd_ne e'] at hk
        rw [List.getElem?_set_ne (Ne.symm e')] at hd
        exact hR.sep j k m n c d hj hk hjk hc hcl hd hdl hmw
  · exact hR.low.alloc hR.low.size o
  · intro j m hj hmw
    by_cases e : j = i
    · subst e
      rw [upd_same] at hj; cases hj
      rw [hl]; exact hR.low.size
    · rw [upd_ne e] at hj; exact hR.high j m hj hmw
  · intro j m hj
    by_cases e : j = i
    · subst e
      rw [upd_same] at hj; cases hj
      omega
    · rw [upd_ne e] at hj
      have := hR.room j m hj
      omega
  · intro j c hc hcl
    by_cases e : j = i
    · subst e; exact ⟨l, upd_same _ _ _⟩
    · rw [List.getElem?_set_ne (Ne.symm e)] at hc
      obtain ⟨m, hm⟩ := hR.tot j c hc hcl
      exact ⟨m, by rw [upd_ne e]; exact hm⟩
  · intro b a e
    obtain ⟨t, fr, q⟩ := hR.imm b a e
    exact ⟨t, fr, (hold b (hR.im_room e)).trans q⟩
  · intro j m c hj hc hcl hmw
    show ρ.im m.blk = none
    by_cases e : j = i
    · subst e
      rw [upd_same] at hj; cases hj
      exact hR.im_none (by omega)
    · rw [upd_ne e] at hj
      rw [List.getElem?_set_ne (Ne.symm e)] at hc
      exact hR.isep j m c hj hc hcl hmw
  · intro j m hj hmw
    by_cases e : j = i
    · subst e
      rw [upd_same] at hj; cases hj
      exact .inr (by omega)
    · rw [upd_ne e] at hj
      exact .inl ⟨j, m, hj, hmw, rfl⟩

/-- The world with another object at a block. -/
def setObjW (w : World) (b : Nat) (o : Obj) : World := { w with heap := w.heap.setIfInBounds b o }

/-- A block of the call's own gets other contents. -/
theorem rel_set0 {W0 : World} {ρ : Ren} {h : AHeap} {w : World} (hR : Rel W0 ρ h w) {i : Nat} {l : Loc} {b0 b : ABlk} (hi : ρ i = some l) (hb0 : h[i]? = some b0)
    (hl0 : b0.live = true) (hw : l.wr = true) (o : Obj) (hb : BRel ρ l (setObjW w l.blk o) b) :
    Rel W0 ρ (h.set i b) (setObjW w l.blk o) ∧ Ext ρ w ρ (setObjW w l.blk o) := by
  have hlt : i < h.length := hR.dom i l hi
  have hold : ∀ k, k ≠ l.blk → (setObjW w l.blk o).heap[k]? = w.heap[k]? := fun k hk => by simp [setObjW, Ne.symm hk]
  have hsz : (setObjW w l.blk o).heap.size = w.heap.size := by simp [setObjW]
  refine ⟨⟨?_, ?_, ?_, ?_, hR.high, ?_, ?_, ?_, ?_⟩, ⟨Sub.refl ρ, fun j m hj hmw => .inl ⟨j, m, hj, hmw, rfl⟩, by omega, ?_, rfl, rfl, rfl, fun _ _ z => .inl z⟩⟩
  · intro j m c hj hc
    by_cases e : j = i
    · subst e
      rw [hi] at hj; cases hj
      rw [List.getElem?_set_self hlt] at hc; cases hc
      exact hb
    · rw [List.getElem?_set_ne (Ne.symm e)] at hc
      have hB := hR.blk j m c hj hc
      by_cases hcl : c.live = true
      · exact hB.mono (Sub.refl ρ) (hold _ (Ne.symm (hR.sep i j l m b0 c hi hj (Ne.symm e) hb0 hl0 hc hcl hw)))
      · cases c with
        | free => exact hB
        | dead => trivial
        | _ => exact absurd rfl hcl
  · intro j m hj; rw [List.length_set]; exact hR.dom j m hj
  · intro j k m n c d hj hk hjk hc hcl hd hdl hmw
    have f : ∀ (j : Nat) (c : ABlk), (h.set i b)[j]? = some c → c.live = true → ∃ c', h[j]? = some c' ∧ c'.live = true := by
      intro j c hc hcl
      by_cases e : j = i
      · subst e; exact ⟨b0, hb0, hl0⟩
      · rw [List.getElem?_set_ne (Ne.symm e)] at hc; exact ⟨c, hc, hcl⟩
    obtain ⟨c', hc', hcl'⟩ := f j c hc hcl
    obtain ⟨d', hd', hdl'⟩ := f k d hd hdl
    exact hR.sep j k m n c' d' hj hk hjk hc' hcl' hd' hdl' hmw
  · have hge := hR.high i l hi hw
    refine hR.low.trans ⟨rfl, rfl, rfl, by omega, fun k hk => hold k (by omega)⟩
  · intro j m hj; rw [hsz]; exact hR.room j m hj
  · intro j c hc hcl
    by_cases e : j = i
    · subst e; exact ⟨l, hi⟩
    · rw [List.getElem?_set_ne (Ne.symm e)] at hc
      exact hR.tot j c hc hcl
  · intro b a e
    obtain ⟨t, fr, q⟩ := hR.imm b a e
    refine ⟨t, fr, (hold b fun z => ?_).trans q⟩
    have := hR.isep i l b0 hi hb0 hl0 hw
    rw [← z, e] at this; cases this
  · intro j m c hj hc hcl hmw
    by_cases e : j = i
    · subst e; rw [hi] at hj; cases hj; exact hR.isep _ l b0 hi hb0 hl0 hw
    · rw [List.getElem?_set_ne (Ne.symm e)] at hc
      exact hR.isep j m c hj hc hcl hmw
  · intro k hk hn
    exact hold k (Ne.symm (hn i l hi hw))
theorem rel_set {W0 : World} {ρ : Ren} {h : AHeap} {w : World} (hR : Rel W0 ρ h w) {i : Nat} {l : Loc} {b0 b : ABlk} (hi : ρ i = some l) (hb0 : h[i]? = some b0)
    (hl0 : b0.live = true) (hlive : b.live = true) (hw : l.wr = true) (o : Obj) (hb : BRel ρ l (setObjW w l.blk o) b) :
    Rel W0 ρ (h.set i b) (setObjW w l.blk o) ∧ Ext ρ w ρ (setObjW w l.blk o) := rel_set0 hR hi hb0 hl0 hw o hb
/-- A block is given up. -/
theorem rel_dead {W0 : World} {ρ : Ren} {h : AHeap} {w : World} (hR : Rel W0 ρ h w) (i : Nat) : Rel W0 ρ (h.set i .dead) w := by
  refine ⟨?_, ?_, ?_, hR.low, hR.high, hR.room, ?_, hR.imm, ?_⟩
  · intro j m c hj hc
    by_cases e : i = j
    · subst e
      rw [List.getElem?_set_self (hR.dom _ m hj)] at hc; cases hc; trivial
    · rw [List.getElem?_set_ne e] at hc; exact hR.blk j m c hj hc
  · intro j m hj; rw [List.length_set]; exact hR.dom j m hj
  · intro j k m n c d hj hk hjk hc hcl hd hdl hmw
    by_cases e : i = j
    · subst e
      rw [List.getElem?_set_self (hR.dom _ m hj)] at hc; cases hc; cases hcl
    · rw [List.getElem?_set_ne e] at hc
      by_cases e' : i = k
      · subst e'
        rw [List.getElem?_set_self (hR.dom _ n hk)] at hd; cases hd; cases hdl
      · rw [List.getElem?_set_ne e'] at hd
        exact hR.sep j k m n c d hj hk hjk hc hcl hd hdl hmw
  · intro j c hc hcl
    by_cases e : i = j
    · subst e
      have hlt : i < h.length := by have := (List.getElem?_eq_some_iff.mp hc).1; simpa using this
      rw [List.getElem?_set_self hlt] at hc; cases hc; cases hcl
    · rw [List.getElem?_set_ne e] at hc; exact hR.tot j c hc hcl
  · intro j m c hj hc hcl hmw
    by_cases e : i = j
    · subst e
      rw [List.getElem?_set_self (hR.dom _ m hj)] at hc; cases hc; cases hcl
    · rw [List.getElem?_set_ne e] at hc; exact hR.isep j m c hj hc hcl hmw
/-- A free place behind the last. -/
theorem rel_free {W0 : World} {ρ : Ren} {h : AHeap} {w : World} (hR : Rel W0 ρ h w) (n : Nat) : Rel W0 ρ (h ++ List.replicate n .free) w := by
  refine ⟨?_, ?_, ?_, hR.low, hR.high, hR.room, ?_, hR.imm, ?_⟩
  · intro j m c hj hc
    rw [List.getElem?_append_left (hR.dom j m hj)] at hc
    exact hR.blk j m c hj hc
  · intro j m hj; rw [List.length_append]; have := hR.dom j m hj; omega
  · intro j k m n c d hj hk hjk hc hcl hd hdl hmw
    rw [List.getElem?_append_left (hR.dom j m hj)] at hc
    rw [List.getElem?_append_left (hR.dom k n hk)] at hd
    exact hR.sep j k m n c d hj hk hjk hc hcl hd hdl hmw
  · intro j c hc hcl
    rcases Nat.lt_or_ge j h.length with q | q
    · rw [List.getElem?_append_left q] at hc; exact hR.tot j c hc hcl
    · rw [List.getElem?_append_right q, List.getElem?_replicate] at hc
      split at hc
      · cases hc; cases hcl
      · cases hc
  · intro j m c hj hc hcl hmw
    rw [List.getElem?_append_left (hR.dom j m hj)] at hc
    exact hR.isep j m c hj hc hcl hmw
/-- A draw turns nothing. -/
theorem rel_drawn {W0 : World} {ρ : Ren} {h : AHeap} {w : World} (hR : Rel W0 ρ h w) (n : Nat) : Rel W0 ρ h { w with drawn := n } :=
  ⟨fun j m c hj hc => (hR.blk j m c hj hc).mono (Sub.refl ρ) rfl, hR.dom, hR.sep, ⟨hR.low.os, hR.low.tape, hR.low.output, hR.low.size, hR.low.block⟩, hR.high, hR.room, hR.tot, hR.imm, hR.isep⟩
theorem ext_drawn (ρ : Ren) (w : World) (n : Nat) : Ext ρ w ρ { w with drawn := n } :=
  ⟨Sub.refl ρ, fun i l h k => .inl ⟨i, l, h, k, rfl⟩, Nat.le_refl _, fun _ _ _ => rfl, rfl, rfl, rfl, fun _ _ z => .inl z⟩
end Go.Den
namespace Go.Den
open Go Go.RowKit

def putAt (c : Array Value) (p : Nat) : List Value → Array Value
  | [] => c
  | v :: r => putAt (c.setIfInBounds p v) (p + 1) r
theorem putAt_size (vs : List Value) : ∀ (c : Array Value) (p : Nat), (putAt c p vs).size = c.size := by
  induction vs with
  | nil => intro c p; rfl
  | cons v r ih => intro c p; rw [putAt, ih]; simp
theorem putAt_out (vs : List Value) : ∀ (c : Array Value) (p k : Nat), (k < p ∨ p + vs.length ≤ k) → (putAt c p vs)[k]? = c[k]? := by
  induction vs with
  | nil => intro c p k _; rfl
  | cons v r ih =>
    intro c p k h
    simp only [List.length_cons] at h
    rw [putAt, ih _ _ _ (by omega), Array.getElem?_setIfInBounds_ne (by omega)]
theorem putAt_in (vs : List Value) : ∀ (c : Array Value) (p k : Nat), p + vs.length ≤ c.size → k < vs.length → (putAt c p vs)[p + k]? = vs[k]? := by
  induction vs with
  | nil => intro c p k _ h; cases h
  | cons v r ih =>
    intro c p k h hk
    simp only [List.length_cons] at h hk
    rw [putAt]
    cases k with
    | zero =>
      rw [putAt_out _ _ _ _ (by omega), Nat.add_zero, Array.getElem?_setIfInBounds, if_pos rfl, if_pos (by omega)]; rfl
    | succ k =>
      have := ih (c.setIfInBounds p v) (p + 1) k (by simp; omega) (by omega)
      rw [show p + (k + 1) = p + 1 + k by omega, this]
      simp

theorem add_plain (g o i : Nat) : (⟨g, o, none⟩ : Addr).add i = ⟨g, o + i, none⟩ := by
  unfold Addr.add; split
  · rename_i h; subst h; rfl
  · rfl
theorem cell_of {w : World} {g : Nat} {c : Array Value} {t : TypeId} {fz : Nat × Nat} (h : w.heap[g]? = some (.cells c t fz)) (o : Nat) : w.cell? ⟨g, o, none⟩ = c[o]? := by
  simp [World.cell?, h]
theorem frozen_of {w : World} {g : Nat} {c : Array Value} {t : TypeId} {fz : Nat × Nat} (h : w.heap[g]? = some (.cells c t fz)) (o : Nat) : w.frozen? ⟨g, o, none⟩ = (decide (fz.1 ≤ o) && decide (o < fz.2)) := by
  simp [World.frozen?, h]
theorem setCell_of {w : World} {g : Nat} {c : Array Value} {t : TypeId} {fz : Nat × Nat} (h : w.heap[g]? = some (.cells c t fz)) (o : Nat) (v : Value) :
    w.setCell ⟨g, o, none⟩ v = setObjW w g (.cells (c.setIfInBounds o v) t fz) := by
  unfold World.setCell setObjW
  congr 1
  apply Array.ext_getElem?
  intro k
  rw [Array.getElem?_modify]
  by_cases hk : g = k
  · subst hk
    have hlt : g < w.heap.size := by
      rcases Nat.lt_or_ge g w.heap.size with p | p
      · exact p
      · rw [Array.getElem?_eq_none p] at h; cases h
    rw [if_pos rfl, h]
    simp [hlt]
  · rw [if_neg hk, Array.getElem?_setIfInBounds_ne hk]
theorem setObjW_at {w : World} {g : Nat} {o0 : Obj} (h : w.heap[g]? = some o0) (o : Obj) : (setObjW w g o).heap[g]? = some o := by
  have hlt : g < w.heap.size := by
    rcases Nat.lt_or_ge g w.heap.size with p | p
    · exact p
    · rw [Array.getElem?_eq_none p] at h; cases h
  simp [setObjW, hlt]
theorem setObjW_twice (w : World) (g : Nat) (o o' : Obj) : setObjW (setObjW w g o) g o' = setObjW w g o' := by
  simp [setObjW]
theorem setObjW_same {w : World} {g : Nat} {o : Obj} (h : w.heap[g]? = some o) : setObjW w g o = w := by
  unfold setObjW
  have : w.heap.setIfInBounds g o = w.heap := by
    apply Array.ext_getElem?
    intro k
    by_cases hk : g = k
    · subst hk
      have hlt : g < w.heap.size := by
        rcases Nat.lt_or_ge g w.heap.size with p | p
        · exact p
        · rw [Array.getElem?_eq_none p] at h; cases h
      rw [h]; simp [hlt]
    · rw [Array.getElem?_setIfInBounds_ne hk]
  rw [this]
theorem run_storeCells_blk (P : Program) (g o : Nat) (t : TypeId) (fz : Nat × Nat) : ∀ (vs : List Value) (i : Nat) (c : Array Value) (w : World), w.heap[g]? = some (.cells c t fz) →
    o + i + vs.length ≤ c.size → (∀ k, o + i ≤ k → k < o + i + vs.length → (decide (fz.1 ≤ k) && decide (k < fz.2)) = false) → vs.all (·.oneCell') = true →
    (storeCells ⟨g, o, none⟩ vs i).run P w = .ok () (setObjW w g (.cells (putAt c (o + i) vs) t fz)) := by
  intro vs
  induction vs with
  | nil => intro i c w h _ _ _; simp only [storeCells, putAt, Sem.run_pure]; rw [setObjW_same h]
  | cons v r ih =>
    intro i c w h hs hf h1
    simp only [List.length_cons] at hs hf
    simp only [List.all_cons, Bool.and_eq_true] at h1
    have hc : w.cell? ⟨g, o + i, none⟩ = some (c[o + i]'(by omega)) := by rw [cell_of h]; simp
    have hz : w.frozen? ⟨g, o + i, none⟩ = false := by rw [frozen_of h]; exact hf _ (by omega) (by omega)
    have e : (store ⟨g, o + i, none⟩ v).run P w = .ok () (setObjW w g (.cells (c.setIfInBounds (o + i) v) t fz)) := by
      rw [run_store P w _ v _ h1.1, hc]
      simp only [hz, Bool.false_eq_true, if_false]
      rw [setCell_of h]
    simp only [storeCells, Sem.run_bind, add_plain, e, Result.andThen_ok]
    rw [ih (i + 1) _ _ (setObjW_at h _) (by simp; omega) (fun k h1 h2 => hf k (by omega) (by omega)) h1.2, setObjW_twice]
    rfl

/-! ### types -/
inductive Kd where
  | b
  | i
  | s
inductive Sh where
  | bool
  | int (k : IntKind)
  | string
  | ptr (esz : Nat) (e : TypeId)
  | uptr
  | slice (esz ebytes : Nat) (eagg : Bool) (ez : List Value) (e : TypeId)
  | struct (fs : List (Nat × Nat × Bool))
  | arr (n esz : Nat) (eagg : Bool)
  | map (kstr : Bool) (ezero : Value)
  | func
  | iface
  | other
structure TyI where
  size : Nat
  bytes : Nat
  agg : Bool
  zero : List Value
  sh : Sh
  pl : List Kd := []
abbrev Tys := List (Nat × TyI)
def Tys.get : Tys → Nat → Option TyI
  | [], _ => none
  | (t, i) :: r, u => bif Nat.beq t u then some i else Tys.get r u
def aggD : TypeDesc → Bool
  | .struct _ | .array _ _ => true
  | _ => false
structure InfoOk (P : Program) (t : TypeId) (size bytes : Nat) (agg : Bool) (z : List Value) : Prop where
  ex : ∃ (info : TypeInfo) (d : TypeDesc) (zv : Value), P.info? t = some info ∧ info.size = size ∧ info.bytes = bytes ∧ info.zero = some zv ∧ zv.cells.toList = z ∧
    P.underlying t = some d ∧ aggD d = agg ∧ (agg = true → zv = .agg z.toArray) ∧ (agg = false → z = [zv] ∧ cl1 zv = true) ∧ z.all cl1 = true ∧ z.length = size
def shOk (P : Program) (t : TypeId) : Sh → Prop
  | .bool => P.underlying t = some .bool
  | .int k => P.underlying t = some (.int k)
  | .string => P.underlying t = some .string
  | .ptr esz e => ∃ (info : TypeInfo), P.underlying t = some (.pointer e) ∧ P.info? e = some info ∧ info.size = esz
  | .slice esz eb ea ez e => P.underlying t = some (.slice e) ∧ InfoOk P e esz eb ea ez
  | .struct fs => ∃ fields : Array Field, P.underlying t = some (.struct fields) ∧ fields.size = fs.length ∧
      ∀ (k : Nat) (x : Nat × Nat × Bool), fs[k]? = some x → ∃ f : Field, fields[k]? = some f ∧ f.offset = x.1 ∧ ∃ (info : TypeInfo) (d : TypeDesc), P.info? f.type = some info ∧ info.size = x.2.1 ∧ P.underlying f.type = some d ∧ aggD d = x.2.2
  | .arr n esz ea => ∃ (e : TypeId) (info : TypeInfo) (d : TypeDesc), P.underlying t = some (.array n e) ∧ P.info? e = some info ∧ info.size = esz ∧ P.underlying e = some d ∧ aggD d = ea
  | .map ks ez => ∃ (k e : TypeId) (d : TypeDesc) (info : TypeInfo), P.underlying t = some (.map k e) ∧ P.underlying k = some d ∧ (if ks then d = .string else ∃ i, d = .int i) ∧ P.info? e = some info ∧ info.zero = some ez ∧ cl ez = true
  | .func => ∃ a b c, P.underlying t = some (.func a b c)
  | .iface => ∃ a, P.underlying t = some (.interface a)
  | .uptr => P.underlying t = some .unsafePointer
  | .other => True
/-- A type all of whose parts are numbers, texts and bools, and may be compared. -/
def plainGo (P : Program) (chk : TypeId → Option (List Kd)) : List Field → Nat → Option (List Kd)
  | [], _ => some []
  | f :: r, off => bif Nat.beq f.offset off && (f.name != "_") then (match chk f.type, P.info? f.type with
      | some ks, some info => bif (Nat.beq ks.length info.size && Nat.ble 1 info.size) then (match plainGo P chk r (off + info.size) with
        | some l => some (ks ++ l)
        | none => none) else none
      | _, _ => none) else none
def repK : Nat → List Kd → List Kd
  | 0, _ => []
  | n + 1, ks => ks ++ repK n ks
/-- The kinds of the cells of a type all of whose parts are numbers, texts and bools, and may be compared. -/
def plainKs (P : Program) : Nat → TypeId → Option (List Kd)
  | 0, _ => none
  | k + 1, t => match P.underlying t with
    | some .bool => some [.b]
    | some (.int _) => some [.i]
    | some .string => some [.s]
    | some (.struct fs) => bif P.stoodInHeld t then none else plainGo P (plainKs P k) fs.toList 0
    | some (.array n e) => match plainKs P k e, P.info? e with
      | some ks, some info => bif Nat.beq ks.length info.size && Nat.ble 1 info.size && Nat.beq (P.cellsOf e) info.size then some (repK n ks) else none
      | _, _ => none
    | _ => none
def TyOk (P : Program) (t : TypeId) (i : TyI) : Prop := InfoOk P t i.size i.bytes i.agg i.zero ∧ shOk P t i.sh
def TysPl (P : Program) (T : Tys) : Prop := ∀ t i, T.get t = some i → i.pl ≠ [] → plainKs P 20 t = some i.pl ∧ aggD ((P.underlying t).getD .invalid) = true ∧ P.eqGuardType P.depth t = false
def TysOk (P : Program) (T : Tys) : Prop := ∀ t i, T.get t = some i → TyOk P t i
theorem run_typeInfo {P : Program} {t : TypeId} {info : TypeInfo} (h : P.info? t = some info) (w : World) : (typeInfo t).run P w = .ok info w := by
  simp [typeInfo, h]
theorem InfoOk.size_run {P : Program} {t : TypeId} {s b : Nat} {a : Bool} {z : List Value} (h : InfoOk P t s b a z) (w : World) : (sizeOf t).run P w = .ok s w := by
  obtain ⟨info, d, zv, h1, h2, _⟩ := h.ex
  simp [sizeOf, run_typeInfo h1, h2]
theorem InfoOk.agg_run {P : Program} {t : TypeId} {s b : Nat} {a : Bool} {z : List Value} (h : InfoOk P t s b a z) (w : World) : (isAgg t).run P w = .ok a w := by
  obtain ⟨info, d, zv, h1, h2, h3, h4, h5, h6, h7, _⟩ := h.ex
  simp only [isAgg, Sem.run_bind, run_underlying h6, Result.andThen_ok]
  subst h7
  cases d <;> rfl
theorem InfoOk.zero_run {P : Program} {t : TypeId} {s b : Nat} {a : Bool} {z : List Value} (h : InfoOk P t s b a z) (w : World) : ∃ zv : Value, (zeroValue t).run P w = .ok zv w ∧ zv.cells.toList = z ∧ (a = true → zv = .agg z.toArray) ∧ (a = false → z = [zv] ∧ cl1 zv = true) := by
  obtain ⟨info, d, zv, h1, h2, h3, h4, h5, h6, h7, h8, h9, h10, h11⟩ := h.ex
  exact ⟨zv, by simp [zeroValue, run_typeInfo h1, h4], h5, h8, h9⟩
theorem InfoOk.zero_cl {P : Program} {t : TypeId} {s b : Nat} {a : Bool} {z : List Value} (h : InfoOk P t s b a z) : z.all cl1 = true := by
  obtain ⟨info, d, zv, h1, h2, h3, h4, h5, h6, h7, h8, h9, h10, h11⟩ := h.ex
  exact h10
theorem InfoOk.zero_len {P : Program} {t : TypeId} {s b : Nat} {a : Bool} {z : List Value} (h : InfoOk P t s b a z) : z.length = s := by
  obtain ⟨info, d, zv, h1, h2, h3, h4, h5, h6, h7, h8, h9, h10, h11⟩ := h.ex
  exact h11
end Go.Den
namespace Go.Den
open Go Go.RowKit

structure Eff where
  v : Option Value
  rd : List (Nat × ABlk)
  wr : List (Nat × ABlk)
  al : List ABlk
/-- What the sketch says of an operation on the memory h. -/
structure Does (P : Program) (W0 : World) (o : Oper) (e : Env) (h : AHeap) (f : Eff) : Prop where
  sem : OpSem P W0 o e f.rd f.wr (alAt h.length f.al) f.v
  rd : ∀ p ∈ f.rd, h[p.1]? = some p.2
  wr : ∀ p ∈ f.wr, ∃ b, (p.1, b) ∈ f.rd

def evK (e : Env) (x : Operand) (K : Value → Prop) : Prop :=
  match evO e x with
  | some v => K v
  | none => False
theorem evK_ex {e : Env} {x : Operand} {K : Value → Prop} (h : evK e x K) : ∃ v, evO e x = some v ∧ K v := by
  unfold evK at h
  cases hx : evO e x with
  | none => rw [hx] at h; exact h.elim
  | some v => rw [hx] at h; exact ⟨v, rfl, h⟩
def tyK (T : Tys) (t : TypeId) (K : TyI → Prop) : Prop :=
  match T.get t with
  | some i => K i
  | none => False
theorem tyK_ex {T : Tys} {t : TypeId} {K : TyI → Prop} (h : tyK T t K) : ∃ i, T.get t = some i ∧ K i := by
  unfold tyK at h
  cases hx : T.get t with
  | none => rw [hx] at h; exact h.elim
  | some v => rw [hx] at h; exact ⟨v, rfl, h⟩
abbrev pure1 (v : Value) : Eff := ⟨some v, [], [], []⟩
theorem Does.pure {P : Program} {W0 : World} {o : Oper} {e : Env} {h : AHeap} {v : Value} (s : OpSem P W0 o e [] [] [] (some v)) : Does P W0 o e h (pure1 v) :=
  ⟨s, (fun p hp => nomatch hp), (fun p hp => nomatch hp)⟩

/-! ### equality -/
def veqK : Kd → Value → Value → Option Bool
  | .i, .int j a, .int k b => bif keq j k then some (decide (a = b)) else none
  | .s, .string a, .string b => some (decide (a = b))
  | .b, .bool a, .bool b => some (a == b)
  | _, _, _ => none
def eqCells : List Kd → List Value → List Value → Option Bool
  | [], [], [] => some true
  | k :: ks, a :: r, b :: s => match veqK k a b with
    | some x => (match eqCells ks r s with | some y => some (x && y) | none => none)
    | none => none
  | _, _, _ => none
def isConst : Operand → Bool
  | .const _ => true
  | _ => false
/-- '==' on two values that are neither two numbers nor two strings. -/
def eqK (T : Tys) (t : TypeId) (cx : Bool) (u v : Value) (K : Bool → Prop) : Prop :=
  match u, v with
  | .bool a, .bool b => tyK T t fun i => match i.sh with | .bool => K (a == b) | _ => False
  | .pointer none, .pointer none => tyK T t fun i => match i.sh with | .ptr _ _ => K true | _ => False
  | .pointer none, .pointer (some _) => tyK T t fun i => match i.sh with | .ptr _ _ => K false | _ => False
  | .pointer (some _), .pointer none => tyK T t fun i => match i.sh with | .ptr _ _ => K false | _ => False
  | .pointer (some ⟨i, o, none⟩), .pointer (some ⟨j, p, none⟩) => tyK T t fun ti => match ti.sh with | .ptr esz _ => i = j ∧ 0 < esz ∧ K (decide (o = p)) | _ => False
  | .agg xs, .agg ys => tyK T t fun ti => match ti.pl with | [] => False | k :: ks => match eqCells (k :: ks) xs.toList ys.toList with | some b => K b | none => False
  | .slice none _ _, .slice none _ _ => tyK T t fun i => match i.sh with | .slice .. => K true | _ => False
  | .slice none _ _, .slice (some ⟨_, _, none⟩) _ _ => tyK T t fun i => match i.sh with | .slice .. => K false | _ => False
  | .slice (some ⟨_, _, none⟩) _ _, .slice none _ _ => tyK T t fun i => match i.sh with | .slice .. => K false | _ => False
  | .nilFunc, .nilFunc => tyK T t fun i => match i.sh with | .func => K true | _ => False
  | .func (.func _) _ _, .nilFunc => tyK T t fun i => match i.sh with | .func => K false | _ => False
  | .nilIface, .nilIface => bif cx then tyK T t fun i => match i.sh with | .iface => K true | _ => False else False
  | .iface _ _, .nilIface => tyK T t fun i => match i.sh with | .iface => K false | _ => False
  | .nilIface, .iface _ _ => tyK T t fun i => match i.sh with | .iface => K false | _ => False
  | _, _ => False
def guarded : Value → Value → Bool
  | .agg _, .agg _ | .nilIface, .nilIface => true
  | _, _ => false
theorem eqGuard_none {P : Program} {op : BinOp} {t : TypeId} {x y : Operand} {a b : Value} {w : World} (h1 : guarded a b = false) :
    (eqGuard op t x y a b).run P w = .ok () w := by
  unfold eqGuard
  cases a <;> cases b <;> first
    | (exact absurd h1 (by decide))
    | (cases h1; done)
    | (cases op <;> rfl)
theorem eqGuard_nil {P : Program} {op : BinOp} {t : TypeId} {x y : Operand} {w : World} (hc : (isConst x || isConst y) = true) :
    (eqGuard op t x y .nilIface .nilIface).run P w = .ok () w := by
  unfold eqGuard
  cases x <;> cases y <;> cases op <;> first | rfl | (cases hc; done)

def binK (T : Tys) (op : BinOp) (t : TypeId) (cx : Bool) (u v : Value) (K : Value → Prop) : Prop :=
  match u, v with
  | .int k a, .int k' b => bif isShift op then shiftK op k a b K else (bif keq k k' then intK op k a b K else False)
  | .string a, .string b => strK op a b K
  | u, v => match op with
    | .eql => eqK T t cx u v fun b => K (.bool b)
    | .neq => eqK T t cx u v fun b => K (.bool (!b))
    | _ => False
def unK (op : UnOp) (u : Value) (K : Value → Prop) : Prop :=
  match op, u with
  | .neg, .int k n => K (.int k (k.wrap (0 - n)))
  | .xor, .int k n => K (.int k (Go.bits .xor k (if k.signed then -1 else k.max) n))
  | .not, .bool b => K (.bool (!b))
  | _, _ => False
theorem unK_run {op : UnOp} {u : Value} {K : Value → Prop} (h : unK op u K) : ∃ r, K r ∧ AF u ∧ AF r ∧ ∀ (P : Program) (w : World), (Op.unary op u).run P w = .ok r w := by
  unfold unK at h
  split at h
  · exact ⟨_, h, .int _ _, .int _ _, fun P w => by simp [Op.unary, Op.intArith]⟩
  · exact ⟨_, h, .int _ _, .int _ _, fun P w => by simp only [Op.unary, intBits_xor, Sem.run_pure]⟩
  · exact ⟨_, h, .bool _, .bool _, fun P w => by simp [Op.unary]⟩
  · exact h.elim

theorem sh_bool {P : Program} {T : Tys} (hT : TysOk P T) {t : TypeId} {i : TyI} (h : T.get t = some i) : shOk P t i.sh := (hT t i h).2
/-- The machine's side of an '==' or '!='. -/
structure EqRuns (P : Program) (t : TypeId) (x y : Operand) (u v : Value) (b : Bool) : Prop where
  guard : ∀ (op : BinOp) (w : World), (eqGuard op t x y u v).run P w = .ok () w
  eql : ∀ w : World, (binOp .eql t u v).run P w = .ok (.bool b) w
  neq : ∀ w : World, (binOp .neq t u v).run P w = .ok (.bool (!b)) w
theorem EqRuns.of {P : Program} {t : TypeId} {x y : Operand} {u v : Value} {b : Bool} (g : ∀ (op : BinOp) (w : World), (eqGuard op t x y u v).run P w = .ok () w)
    (e : binOp .eql t u v = do pure (.bool (← Op.equal t u v))) (n : binOp .neq t u v = do pure (.bool (!(← Op.equal t u v))))
    (q : ∀ (d : Nat) (w : World), 50 ≤ d → (Op.equalIn (d + 1) t u v).run P w = .ok b w) : EqRuns P t x y u v b :=
  have q' : ∀ w : World, (Op.equal t u v).run P w = .ok b w := fun w => q 9999 w (by decide)
  ⟨g, fun w => by rw [e]; simp [q'], fun w => by rw [n]; simp [q']⟩
/-- The value of a type, by its cells. -/
def PV (P : Program) (t : TypeId) (xs : List Value) (v : Value) : Prop := if aggD ((P.underlying t).getD .invalid) = true then v = .agg xs.toArray else xs = [v]
theorem eqCells_len : ∀ {ks : List Kd} {xs ys : List Value} {b : Bool}, eqCells ks xs ys = some b → xs.length = ks.length ∧ ys.length = ks.length
  | [], [], [], _, _ => ⟨rfl, rfl⟩
  | k :: ks, a :: r, c :: s, b, h => by
    unfold eqCells at h
    split at h
    · split at h
      · rename_i hq; obtain ⟨h1, h2⟩ := eqCells_len hq; exact ⟨by simp [h1], by simp [h2]⟩
      · cases h
    · cases h
  | [], _ :: _, _, _, h => by cases h
  | [], [], _ :: _, _, h => by cases h
  | _ :: _, [], _, _, h => by cases h
  | _ :: _, _ :: _, [], _, h => by cases h
theorem eqCells_app : ∀ {ks ls : List Kd} {xs ys xs' ys' : List Value} {b : Bool}, xs.length = ks.length → ys.length = ks.length → eqCells (ks ++ ls) (xs ++ xs') (ys ++ ys') = some b →
    ∃ b1 b2, eqCells ks xs ys = some b1 ∧ eqCells ls xs' ys' = some b2 ∧ b = (b1 && b2)
  | [], ls, [], [], xs', ys', b, _, _, h => ⟨true, b, rfl, h, by simp⟩
  | k :: ks, ls, x :: xs, y :: ys, xs', ys', b, h1, h2, h => by
    simp only [List.cons_append, eqCells] at h
    split at h
    · rename_i c hc
      split at h
      · rename_i c' hc'
        obtain ⟨b1, b2, g1, g2, g3⟩ := eqCells_app (by simpa using h1) (by simpa using h2) hc'
        cases h
        refine ⟨c && b1, b2, by unfold eqCells; simp only [hc, g1], g2, by rw [g3, Bool.and_assoc]⟩
      · cases h
    · cases h
  | [], _, _ :: _, _, _, _, _, h1, _, _ => by cases h1
  | [], _, [], _ :: _, _, _, _, _, h2, _ => by cases h2
  | _ :: _, _, [], _, _, _, _, h1, _, _ => by cases h1
  | _ :: _, _, _ :: _, [], _, _, _, _, h2, _ => by cases h2
theorem run_part {P : Program} {t : TypeId} {info : TypeInfo} {d : TypeDesc} (hi : P.info? t = some info) (hd : P.underlying t = some d) (cs : List Value) (off : Nat) (hl : off + info.size ≤ cs.length) (h1 : aggD d = false → info.size = 1) (w : World) :
    ∃ v, (part t cs.toArray off).run P w = .ok v w ∧ PV P t ((cs.drop off).take info.size) v := by
  have ha : (isAgg t).run P w = .ok (aggD d) w := by
    simp only [isAgg, Sem.run_bind, run_underlying hd, Result.andThen_ok]; cases d <;> rfl
  cases hb : aggD d with
  | true =>
    refine ⟨.agg (cs.toArray.extract off (off + info.size)), by simp [part, ha, hb, sizeOf, run_typeInfo hi], ?_⟩
    unfold PV
    rw [hd]
    simp only [Option.getD_some, hb, if_true]
    congr 1
    apply Array.ext'
    rw [Array.toList_extract]
    simp [List.extract_eq_take_drop]
  | false =>
    have hs := h1 hb
    have hlt : off < cs.length := by omega
    refine ⟨cs[off], ?_, ?_⟩
    · have : cs.toArray[off]? = some cs[off] := by simp [hlt]
      simp [part, ha, hb, this, hlt]
    · unfold PV
      rw [hd]
      simp only [Option.getD_some, hb, Bool.false_eq_true, if_false]
      rw [hs, List.drop_eq_getElem_cons hlt]; rfl
theorem go_run {P : Program} {chk : TypeId → Option (List Kd)} {k d : Nat} (ih : ∀ (t : TypeId) (ks : List Kd), chk t = some ks → ∀ (xs ys : List Value) (b : Bool) (u v : Value) (w : World), eqCells ks xs ys = some b → PV P t xs u → PV P t ys v → (Op.equalIn d t u v).run P w = .ok b w)
    (hb : ∀ (t : TypeId) (ks : List Kd), chk t = some ks → ∃ d, P.underlying t = some d ∧ (aggD d = false → ks.length = 1)) (xs ys : List Value) :
    ∀ (fs : List Field) (off : Nat) (ks : List Kd) (b : Bool) (w : World), plainGo P chk fs off = some ks → eqCells ks (xs.drop off) (ys.drop off) = some b → (Op.eqFields d xs.toArray ys.toArray fs).run P w = .ok b w := by
  intro fs
  induction fs with
  | nil =>
    intro off ks b w h he
    simp only [plainGo] at h; cases h
    obtain ⟨h1, h2⟩ := eqCells_len he
    have n1 : xs.drop off = [] := List.eq_nil_of_length_eq_zero h1
    have n2 : ys.drop off = [] := List.eq_nil_of_length_eq_zero h2
    rw [n1, n2] at he
    cases he
    simp [Op.eqFields]
  | cons f r ihf =>
    intro off ks b w h he
    unfold plainGo at h
    cases hc : (Nat.beq f.offset off && (f.name != "_")) with
    | false => rw [hc] at h; cases h
    | true =>
      rw [hc] at h
      simp only [Bool.and_eq_true] at hc
      have ho := Nat.eq_of_beq_eq_true hc.1
      simp only [cond_true] at h
      split at h
      · rename_i ks1 info hk hi
        cases hs : (Nat.beq ks1.length info.size && Nat.ble 1 info.size) with
        | false => rw [hs] at h; cases h
        | true =>
          rw [hs] at h
          simp only [cond_true] at h
          split at h
          · rename_i l hl
            cases h
            simp only [Bool.and_eq_true] at hs
            have hsz := Nat.eq_of_beq_eq_true hs.1
            have hz1 := Nat.le_of_ble_eq_true hs.2
            obtain ⟨h1, h2⟩ := eqCells_len he
            simp only [List.length_append, List.length_drop] at h1 h2
            have e1 : xs.drop off = (xs.drop off).take info.size ++ xs.drop (off + info.size) := by rw [← List.drop_drop, List.take_append_drop]
            have e2 : ys.drop off = (ys.drop off).take info.size ++ ys.drop (off + info.size) := by rw [← List.drop_drop, List.take_append_drop]
            rw [e1, e2] at he
            obtain ⟨b1, b2, g1, g2, g3⟩ := eqCells_app (by simp only [List.length_take, List.length_drop]; omega) (by simp only [List.length_take, List.length_drop]; omega) he
            obtain ⟨dd, hd, hone⟩ := hb _ _ hk
            obtain ⟨u, r1, p1⟩ := run_part hi hd xs off (by omega) (fun q => by have := hone q; omega) w
            obtain ⟨v, r2, p2⟩ := run_part hi hd ys off (by omega) (fun q => by have := hone q; omega) w
            have r3 := ih _ _ hk _ _ b1 u v w g1 p1 p2
            have hn : f.name ≠ "_" := by simpa using hc.2
            simp only [Op.eqFields, if_pos hn, ho, Sem.run_bind, r1, Result.andThen_ok, r2, r3, Sem.run_ite]
            have ihr := ihf (off + info.size) l b2 w hl g2
            cases b1 with
            | true => simp [ihr, g3]
            | false => simp [g3]
          · cases h
      · cases h
theorem plain_base {P : Program} : ∀ (k : Nat) (t : TypeId) (ks : List Kd), plainKs P k t = some ks → ∃ d, P.underlying t = some d ∧ (aggD d = false → ks.length = 1)
  | 0, t, ks, h => by cases h
  | k + 1, t, ks, h => by
    unfold plainKs at h
    split at h
    · rename_i hu; cases h; exact ⟨_, hu, fun _ => rfl⟩
    · rename_i hu; cases h; exact ⟨_, hu, fun _ => rfl⟩
    · rename_i hu; cases h; exact ⟨_, hu, fun _ => rfl⟩
    · rename_i hu; exact ⟨_, hu, fun q => by cases q⟩
    · rename_i hu; exact ⟨_, hu, fun q => by cases q⟩
    · cases h
theorem items_run {P : Program} {e : TypeId} {d : Nat} {ks : List Kd} {info : TypeInfo} {de : TypeDesc} (ih : ∀ (xs ys : List Value) (b : Bool) (u v : Value) (w : World), eqCells ks xs ys = some b → PV P e xs u → PV P e ys v → (Op.equalIn d e u v).run P w = .ok b w)
    (hi : P.info? e = some info) (hd : P.underlying e = some de) (h1 : aggD de = false → ks.length = 1) (hk : ks.length = info.size) (xs ys : List Value) :
    ∀ (m j : Nat) (b : Bool) (w : World), eqCells (repK m ks) (xs.drop (j * info.size)) (ys.drop (j * info.size)) = some b → (Op.eqItems d e info.size xs.toArray ys.toArray (List.range' j m)).run P w = .ok b w := by
  intro m
  induction m with
  | zero =>
    intro j b w he
    obtain ⟨h1, h2⟩ := eqCells_len he
    have n1 : xs.drop (j * info.size) = [] := List.eq_nil_of_length_eq_zero h1
    have n2 : ys.drop (j * info.size) = [] := List.eq_nil_of_length_eq_zero h2
    rw [n1, n2] at he
    cases he
    simp [Op.eqItems]
  | succ m ihm =>
    intro j b w he
    obtain ⟨l1, l2⟩ := eqCells_len he
    simp only [repK, List.length_append, List.length_drop] at l1 l2
    have e1 : xs.drop (j * info.size) = (xs.drop (j * info.size)).take info.size ++ xs.drop ((j + 1) * info.size) := by rw [Nat.add_mul, Nat.one_mul, ← List.drop_drop, List.take_append_drop]
    have e2 : ys.drop (j * info.size) = (ys.drop (j * info.size)).take info.size ++ ys.drop ((j + 1) * info.size) := by rw [Nat.add_mul, Nat.one_mul, ← List.drop_drop, List.take_append_drop]
    rw [e1, e2] at he
    by_cases hz : info.size = 0
    · have hagg : aggD de = true := by
        cases hq : aggD de with
        | true => rfl
        | false => have := h1 hq; omega
      obtain ⟨b1, b2, g1, g2, g3⟩ := eqCells_app (by simp only [List.length_take, List.length_drop]; omega) (by simp only [List.length_take, List.length_drop]; omega) he
      obtain ⟨u, r1, p1⟩ := run_part hi hd xs 0 (by omega) (fun q => by rw [hagg] at q; cases q) w
      obtain ⟨v, r2, p2⟩ := run_part hi hd ys 0 (by omega) (fun q => by rw [hagg] at q; cases q) w
      have hj : j * info.size = 0 := by rw [hz]; simp
      rw [hj] at g1
      have r3 := ih _ _ b1 u v w g1 p1 p2
      rw [List.range'_succ]
      simp only [Op.eqItems, hj, Sem.run_bind, r1, Result.andThen_ok, r2, r3]
      have ihr := ihm (j + 1) b2 w g2
      cases b1 with
      | true => simp [ihr, g3]
      | false => simp [g3]
    · obtain ⟨b1, b2, g1, g2, g3⟩ := eqCells_app (by simp only [List.length_take, List.length_drop]; omega) (by simp only [List.length_take, List.length_drop]; omega) he
      obtain ⟨u, r1, p1⟩ := run_part hi hd xs (j * info.size) (by omega) (fun q => by have := h1 q; omega) w
      obtain ⟨v, r2, p2⟩ := run_part hi hd ys (j * info.size) (by omega) (fun q => by have := h1 q; omega) w
      have r3 := ih _ _ b1 u v w g1 p1 p2
      rw [List.range'_succ]
      simp only [Op.eqItems, Sem.run_bind, r1, Result.andThen_ok, r2, r3]
      have ihr := ihm (j + 1) b2 w g2
      cases b1 with
      | true => simp [ihr, g3]
      | false => simp [g3]
theorem veqK_b {u v : Value} {b : Bool} (h : veqK .b u v = some b) : ∃ p q, u = .bool p ∧ v = .bool q ∧ b = (p == q) := by
  unfold veqK at h
  split at h <;> first | (rename_i e; cases e; done) | skip
  · cases h; exact ⟨_, _, rfl, rfl, rfl⟩
  · cases h
theorem veqK_i {u v : Value} {b : Bool} (h : veqK .i u v = some b) : ∃ j p q, u = .int j p ∧ v = .int j q ∧ b = (p == q) := by
  unfold veqK at h
  split at h <;> first | (rename_i e; cases e; done) | skip
  · rename_i j p k q _
    cases hkk : keq j k with
    | false => rw [hkk] at h; cases h
    | true =>
      rw [hkk] at h
      cases h
      have := keq_eq hkk
      subst this
      exact ⟨_, _, _, rfl, rfl, rfl⟩
  · cases h
theorem veqK_s {u v : Value} {b : Bool} (h : veqK .s u v = some b) : ∃ p q, u = .string p ∧ v = .string q ∧ b = decide (p = q) := by
  unfold veqK at h
  split at h <;> first | (rename_i e; cases e; done) | skip
  · cases h; exact ⟨_, _, rfl, rfl, rfl⟩
  · cases h
theorem plain_run {P : Program} : ∀ (k : Nat) (t : TypeId) (ks : List Kd), plainKs P k t = some ks → ∀ (d : Nat), k ≤ d → ∀ (xs ys : List Value) (b : Bool) (u v : Value) (w : World), eqCells ks xs ys = some b → PV P t xs u → PV P t ys v → (Op.equalIn d t u v).run P w = .ok b w
  | 0, t, ks, h => by cases h
  | k + 1, t, ks, h => by
    intro d hd xs ys b u v w he hu hv
    obtain ⟨d, rfl⟩ : ∃ d', d = d' + 1 := ⟨d - 1, by omega⟩
    have one : ∀ (kd : Kd), ks = [kd] → xs = [u] → ys = [v] → veqK kd u v = some b := by
      intro kd h1 h2 h3
      rw [h1, h2, h3] at he
      simp only [eqCells] at he
      split at he
      · rename_i x hx; cases he; rw [hx]; simp
      · cases he
    unfold plainKs at h
    split at h
    · rename_i hq
      cases h
      unfold PV at hu hv
      rw [hq] at hu hv
      obtain ⟨p, q, rfl, rfl, rfl⟩ := veqK_b (one _ rfl hu hv)
      exact run_equalIn_bool w d t _ _ hq
    · rename_i kk hq
      cases h
      unfold PV at hu hv
      rw [hq] at hu hv
      obtain ⟨j, p, q, rfl, rfl, rfl⟩ := veqK_i (one _ rfl hu hv)
      rw [run_equalIn_int w d t j kk p q hq]
    · rename_i hq
      cases h
      unfold PV at hu hv
      rw [hq] at hu hv
      obtain ⟨p, q, rfl, rfl, rfl⟩ := veqK_s (one _ rfl hu hv)
      rw [run_equalIn_string w d t _ _ hq, ByteArray.toList_eq, ByteArray.toList_eq, toList_decide]
    · rename_i fs hq
      cases hst : P.stoodInHeld t with
      | true => rw [hst] at h; cases h
      | false =>
        rw [hst] at h
        simp only [cond_false] at h
        unfold PV at hu hv
        rw [hq] at hu hv
        simp only [Option.getD_some, aggD, if_true] at hu hv
        subst hu; subst hv
        have hf : P.fieldsOf t = fs := by unfold Program.fieldsOf; rw [hq]
        rw [run_equalIn_struct w d t _ _ (by rw [hf]; exact hq) hst, hf]
        exact go_run (P := P) (k := k) (fun t' ks' h' xs ys b u v w => plain_run k t' ks' h' d (by omega) xs ys b u v w) (fun t' ks' h' => plain_base k t' ks' h') xs ys fs.toList 0 ks b w h (by simpa using he)
    · rename_i n e hq
      split at h
      · rename_i ks1 info hk hi
        cases hst : (Nat.beq ks1.length info.size && Nat.ble 1 info.size && Nat.beq (P.cellsOf e) info.size) with
        | false => rw [hst] at h; cases h
        | true =>
          rw [hst] at h
          simp only [cond_true, Option.some.injEq] at h
          subst h
          simp only [Bool.and_eq_true] at hst
          have c1 := Nat.eq_of_beq_eq_true hst.1.1
          have c2 := Nat.eq_of_beq_eq_true hst.2
          unfold PV at hu hv
          rw [hq] at hu hv
          simp only [Option.getD_some, aggD, if_true] at hu hv
          subst hu; subst hv
          obtain ⟨de, hde, hone⟩ := plain_base _ _ _ hk
          rw [run_equalIn_array w d (i := info) _ _ hq hi, c2, List.range_eq_range']
          exact items_run (fun xs ys b u v w => plain_run k e ks1 hk d (by omega) xs ys b u v w) hi hde hone c1 xs ys n 0 b w (by simpa using he)
      · cases h
    · cases h
theorem eqCells_af : ∀ {ks : List Kd} {xs ys : List Value} {b : Bool}, eqCells ks xs ys = some b → (∀ v ∈ xs, AF v) ∧ (∀ v ∈ ys, AF v)
  | [], [], [], _, _ => ⟨(fun v h => by cases h), (fun v h => by cases h)⟩
  | k :: ks, a :: r, c :: s, b, h => by
    unfold eqCells at h
    split at h
    · rename_i x hx
      split at h
      · rename_i hq
        obtain ⟨h1, h2⟩ := eqCells_af hq
        have hac : AF a ∧ AF c := by
          unfold veqK at hx
          split at hx
          · exact ⟨.int _ _, .int _ _⟩
          · exact ⟨.string _, .string _⟩
          · exact ⟨.bool _, .bool _⟩
          · cases hx
        exact ⟨fun v hv => by
          rcases List.mem_cons.mp hv with rfl | hv
          · exact hac.1
          · exact h1 v hv, fun v hv => by
          rcases List.mem_cons.mp hv with rfl | hv
          · exact hac.2
          · exact h2 v hv⟩
      · cases h
    · cases h
  | [], _ :: _, _, _, h => by cases h
  | [], [], _ :: _, _, h => by cases h
  | _ :: _, [], _, _, h => by cases h
  | _ :: _, _ :: _, [], _, h => by cases h
theorem eqGuard_agg {P : Program} {op : BinOp} {t : TypeId} {x y : Operand} {a b : Array Value} {w : World} (hg : P.eqGuardType P.depth t = false) :
    (eqGuard op t x y (.agg a) (.agg b)).run P w = .ok () w := by
  unfold eqGuard
  cases op <;> simp [hg]
theorem eqK_ex {P : Program} {T : Tys} (hT : TysOk P T) (hP : TysPl P T) {t : TypeId} {cx : Bool} {u v : Value} {K : Bool → Prop} {x y : Operand} (hcx : cx = (isConst x || isConst y)) (h : eqK T t cx u v K) :
    ∃ b, K b ∧ ∀ (ρ : Ren) (u' v' : Value), VRel ρ u u' → VRel ρ v v' → EqRuns P t x y u' v' b := by
  unfold eqK at h
  split at h
  · rename_i a b
    obtain ⟨i, hi, h⟩ := tyK_ex h
    have hs := (hT t i hi).2
    split at h
    · rename_i e; rw [e] at hs
      refine ⟨_, h, fun ρ u' v' hu hv => ?_⟩
      cases hu; cases hv
      exact .of (fun op w => eqGuard_none rfl) rfl rfl (fun d w _ => run_equalIn_bool w d t a b hs)
    · exact h.elim
  case h_5 =>
    rename_i i0 o0 j0 p0
    obtain ⟨i, hi, h⟩ := tyK_ex h
    have hs := (hT t i hi).2
    split at h
    · rename_i e; rw [e] at hs
      obtain ⟨hij, h0, hK⟩ := h
      refine ⟨_, hK, fun ρ u' v' hu hv => ?_⟩
      clear hK
      subst hij
      obtain ⟨info, hs, hi1, hi2⟩ := hs
      cases hu with
      | ptr _ _ l hl =>
        cases hv with
        | ptr _ _ l' hl' =>
          rw [hl] at hl'; cases hl'
          refine .of (fun op w => eqGuard_none rfl) rfl rfl (fun d w _ => ?_)
          have hz : info.size ≠ 0 := by omega
          have e1 : (Addr.mk l.blk (l.off + o0) none == Addr.mk l.blk (l.off + p0) none) = decide (o0 = p0) := by
            rw [Bool.eq_iff_iff]; simp
          simp [Op.equalIn, run_underlying hs, sizeOf, run_typeInfo hi1, hz, sameAddr, e1]
    · exact h.elim
  case h_6 =>
    obtain ⟨i, hi, h⟩ := tyK_ex h
    split at h
    · exact h.elim
    · rename_i k ks e
      split at h
      · rename_i b hb
        obtain ⟨hk, ha, hg⟩ := hP t i hi (by rw [e]; exact fun c => by cases c)
        rw [e] at hk
        refine ⟨_, h, fun ρ u' v' hu hv => ?_⟩
        obtain ⟨ax, ay⟩ := eqCells_af hb
        rw [AF.eq (AF.agg (fun v hv => ax v (by simpa using hv))) hu, AF.eq (AF.agg (fun v hv => ay v (by simpa using hv))) hv]
        refine .of (fun op w => eqGuard_agg hg) rfl rfl (fun d w hd => plain_run 20 t _ hk (d + 1) (by omega) _ _ _ _ _ w hb ?_ ?_)
        · unfold PV; rw [ha]; simp
        · unfold PV; rw [ha]; simp
      · exact h.elim
  all_goals try (
    obtain ⟨i, hi, h⟩ := tyK_ex h
    have hs := (hT t i hi).2
    split at h
    · rename_i e; rw [e] at hs
      refine ⟨_, h, fun ρ u' v' hu hv => ?_⟩
      first
        | (obtain ⟨hs, hI⟩ := hs
           have _hI : InfoOk _ _ _ _ _ _ := hI
           cases hu <;> cases hv <;> exact .of (fun op w => eqGuard_none rfl) rfl rfl (fun d w _ => by simp [Op.equalIn, run_underlying hs]))
        | (obtain ⟨info, hs, hi1, hi2⟩ := hs
           have _hs : P.underlying t = some (.pointer _) := hs
           have _K : K _ := h
           cases hu <;> cases hv <;> exact .of (fun op w => eqGuard_none rfl) rfl rfl (fun d w _ => by simp [Op.equalIn, run_underlying hs]))
        | (obtain ⟨e', hs⟩ := hs
           have _hs : P.underlying t = some (.interface _) := hs
           cases hu <;> cases hv <;> exact .of (fun op w => eqGuard_none rfl) rfl rfl (fun d w _ => by simp [Op.equalIn, run_underlying hs]))
        | (obtain ⟨e1, e2, e3, hs⟩ := hs
           cases hu <;> cases hv <;> exact .of (fun op w => eqGuard_none rfl) rfl rfl (fun d w _ => by simp [Op.equalIn, run_underlying hs]))
    · exact h.elim)
  · cases cx with
    | false => exact h.elim
    | true =>
      obtain ⟨i, hi, h⟩ := tyK_ex h
      have hs := (hT t i hi).2
      split at h
      · rename_i e; rw [e] at hs
        refine ⟨_, h, fun ρ u' v' hu hv => ?_⟩
        obtain ⟨e', hs⟩ := hs
        cases hu; cases hv
        exact .of (fun op w => eqGuard_nil hcx.symm) rfl rfl (fun d w _ => by simp [Op.equalIn, run_underlying hs])
      · exact h.elim
  all_goals exact h.elim
end Go.Den
namespace Go.Den
open Go Go.RowKit
section
variable {P : Program} {W0 : World} {o : Oper} {e : Env}

theorem exec_bin {op : BinOp} {t yt : TypeId} {x y : Operand} (ho : o.op = .binOp op t x y yt) {a : Act} {w : World} {r : Value}
    (hg : (eqGuard op t x y (a.eval x) (a.eval y)).run P w = .ok () w) (hb : (binOp op t (a.eval x) (a.eval y)).run P w = .ok r w) :
    (execOp a.eval o).run P w = .ok (.value r) w := by
  simp [execOp, ho, hg, hb]
theorem does_bin {T : Tys} (hT : TysOk P T) (hP : TysPl P T) {op : BinOp} {t yt : TypeId} {x y : Operand} {u v : Value} {K : Value → Prop} (ho : o.op = .binOp op t x y yt) (hu : evO e x = some u) (hv : evO e y = some v)
    (h : binK T op t (isConst x || isConst y) u v K) : ∃ r, K r ∧ OpSem P W0 o e [] [] [] (some r) := by
  have mx : x ∈ o.op.operands := by simp [ho, Op.operands]
  have my : y ∈ o.op.operands := by simp [ho, Op.operands]
  unfold binK at h
  split at h
  · rename_i k a k' b
    cases hs : isShift op with
    | true =>
      rw [hs] at h
      obtain ⟨r, hr, ar, _, H⟩ := shiftK_run (yk := k') h
      refine ⟨r, hr, .of_run fun ρ hh w ac hR hO _ => ⟨r, ar.rel ρ, ?_⟩⟩
      have e1 := (AF.int k a).eq (hO x mx _ hu)
      have e2 := (AF.int k' b).eq (hO y my _ hv)
      exact exec_bin ho (by rw [e1, e2]; exact eqGuard_none rfl) (by rw [e1, e2, binOp_shift _ _ _ _ _ _ hs]; exact H P w)
    | false =>
      rw [hs] at h
      cases hk : keq k k' with
      | false => rw [hk] at h; exact h.elim
      | true =>
        rw [hk] at h
        obtain rfl := keq_eq hk
        obtain ⟨r, hr, ar, H⟩ := intK_run h
        refine ⟨r, hr, .of_run fun ρ hh w ac hR hO _ => ⟨r, ar.rel ρ, ?_⟩⟩
        have e1 := (AF.int k a).eq (hO x mx _ hu)
        have e2 := (AF.int k b).eq (hO y my _ hv)
        exact exec_bin ho (by rw [e1, e2]; exact eqGuard_none rfl) (by rw [e1, e2]; exact H P w t)
  · rename_i a b
    obtain ⟨r, hr, ar, H⟩ := strK_run h
    refine ⟨r, hr, .of_run fun ρ hh w ac hR hO _ => ⟨r, ar.rel ρ, ?_⟩⟩
    have e1 := (AF.string a).eq (hO x mx _ hu)
    have e2 := (AF.string b).eq (hO y my _ hv)
    exact exec_bin ho (by rw [e1, e2]; exact eqGuard_none rfl) (by rw [e1, e2]; exact H P w t)
  · split at h
    · obtain ⟨b, hb, H⟩ := eqK_ex hT hP (x := x) (y := y) rfl h
      refine ⟨_, hb, .of_run fun ρ hh w ac hR hO _ => ⟨_, (AF.bool b).rel ρ, ?_⟩⟩
      have E := H ρ _ _ (hO x mx _ hu) (hO y my _ hv)
      exact exec_bin ho (E.guard _ w) (E.eql w)
    · obtain ⟨b, hb, H⟩ := eqK_ex hT hP (x := x) (y := y) rfl h
      refine ⟨_, hb, .of_run fun ρ hh w ac hR hO _ => ⟨_, (AF.bool (!b)).rel ρ, ?_⟩⟩
      have E := H ρ _ _ (hO x mx _ hu) (hO y my _ hv)
      exact exec_bin ho (E.guard _ w) (E.neq w)
    · exact h.elim
theorem does_un {op : UnOp} {t : TypeId} {x : Operand} {u : Value} {K : Value → Prop} (ho : o.op = .unOp op t x) (hu : evO e x = some u) (h : unK op u K) :
    ∃ r, K r ∧ OpSem P W0 o e [] [] [] (some r) := by
  have mx : x ∈ o.op.operands := by simp [ho, Op.operands]
  obtain ⟨r, hr, au, ar, H⟩ := unK_run h
  exact ⟨r, hr, opSem_pure1 mx hu au ar fun w ev he => by simp [execOp, ho, he, H P w]⟩
theorem does_pick {c x y : Operand} {t : Bool} {v : Value} (ho : o.op = .pick c x y) (hc : evO e c = some (.bool t)) (hv : evO e (if t then x else y) = some v) :
    OpSem P W0 o e [] [] [] (some v) := .of_run fun ρ h w a hR hO _ => by
  have e1 := (AF.bool t).eq (hO c (by simp [ho, Op.operands]) _ hc)
  have e2 := hO (if t then x else y) (by cases t <;> simp [ho, Op.operands]) _ hv
  refine ⟨_, e2, ?_⟩
  cases t <;> simp [execOp, ho, e1, asBool]

/-! ### conversions that look at no memory -/
def convK (T : Tys) (src dst : TypeId) (u : Value) (K : Value → Prop) : Prop :=
  match u with
  | .int _ n => tyK T dst fun d => match d.sh with
    | .int k => K (.int k (k.wrap n))
    | .string => K (.string (Utf8.encode n))
    | _ => False
  | .string s => tyK T src fun i => match i.sh with
    | .string => tyK T dst fun d => match d.sh with | .string => K (.string s) | _ => False
    | _ => False
  | _ => False
theorem does_conv {T : Tys} (hT : TysOk P T) {src dst : TypeId} {x : Operand} {u : Value} {K : Value → Prop} (ho : o.op = .convert src dst x) (hu : evO e x = some u) (h : convK T src dst u K)
    (hsrc : ∃ d, P.underlying src = some d) : ∃ r, K r ∧ OpSem P W0 o e [] [] [] (some r) := by
  have mx : x ∈ o.op.operands := by simp [ho, Op.operands]
  obtain ⟨sd, hsd⟩ := hsrc
  unfold convK at h
  split at h
  · rename_i k n
    obtain ⟨d, hd, h⟩ := tyK_ex h
    have hs := (hT dst d hd).2
    split at h
    · rename_i k' e'; rw [e'] at hs
      refine ⟨_, h, opSem_pure1 mx hu (.int _ _) (.int _ _) fun w ev he => ?_⟩
      simp [execOp, ho, he, convert, run_underlying hs, run_underlying hsd, Conv.intToInt]
    · rename_i e'; rw [e'] at hs
      refine ⟨_, h, opSem_pure1 mx hu (.int _ _) (.string _) fun w ev he => ?_⟩
      simp [execOp, ho, he, convert, run_underlying hs, run_underlying hsd, Conv.intToString]
    · exact h.elim
  · rename_i s
    obtain ⟨i, hi, h⟩ := tyK_ex h
    have hs := (hT src i hi).2
    split at h
    · rename_i e1; rw [e1] at hs
      obtain ⟨d, hd, h⟩ := tyK_ex h
      have hs' := (hT dst d hd).2
      split at h
      · rename_i e2; rw [e2] at hs'
        refine ⟨_, h, opSem_pure1 mx hu (.string _) (.string _) fun w ev he => ?_⟩
        simp [execOp, ho, he, convert, run_underlying hs, run_underlying hs']
      · exact h.elim
    · exact h.elim
  · exact h.elim
end
end Go.Den
namespace Go.Den
open Go Go.RowKit

theorem rd_blk {W0 : World} {ρ : Ren} {h : AHeap} {w : World} (hR : Rel W0 ρ h w) {i : Nat} {l : Loc} {b : ABlk} (hi : ρ i = some l) (hb : h[i]? = some b) : BRel ρ l w b := hR.blk i l b hi hb
theorem ptr_inv {ρ : Ren} {i o : Nat} {v' : Value} (h : VRel ρ (.pointer (some ⟨i, o, none⟩)) v') : ∃ l, ρ i = some l ∧ v' = .pointer (some ⟨l.blk, l.off + o, none⟩) := by
  cases h with | ptr _ _ l hl => exact ⟨l, hl, rfl⟩
/-- The machine's cells of a part of a block. -/
theorem cells_part {ρ : Ren} {l : Loc} {w : World} {cs : List Value} {sz : Nat} {wr sp : Bool} {ty : TypeId} (hB : BRel ρ l w (.cells cs sz wr sp ty)) (o n : Nat) (hn : o + n ≤ cs.length) :
    ∃ ds : List Value, ds.length = n ∧ (∀ (j : Nat) (v : Value), ds[j]? = some v → w.cell? ⟨l.blk, l.off + o + j, none⟩ = some v) ∧
      (∀ (j : Nat) (u u' : Value), ((cs.drop o).take n)[j]? = some u → ds[j]? = some u' → VRel ρ u u') := by
  obtain ⟨h1, h2, h3, h4, h5, h6, c, t, fr, hty, h7, h8, h9, h10⟩ := hB
  refine ⟨(c.toList.drop (l.off + o)).take n, ?_, ?_, ?_⟩
  · simp only [List.length_take, List.length_drop, Array.length_toList]; omega
  · intro j v hj
    rw [cell_of h7]
    rw [List.getElem?_take] at hj
    split at hj
    · rw [List.getElem?_drop, Array.getElem?_toList] at hj; exact hj
    · cases hj
  · intro j u u' hu hu'
    rw [List.getElem?_take] at hu hu'
    split at hu
    · rename_i hjn
      rw [if_pos hjn] at hu'
      rw [List.getElem?_drop] at hu hu'
      obtain ⟨v', p, q⟩ := h9 _ _ hu
      rw [Array.getElem?_toList, Nat.add_assoc, p] at hu'
      cases hu'; exact q
    · cases hu
theorem toArray_rel {ρ : Ren} {us ds : List Value} (hl : us.length = ds.length) (h : ∀ (j : Nat) (u u' : Value), us[j]? = some u → ds[j]? = some u' → VRel ρ u u') : VRel ρ (.agg us.toArray) (.agg ds.toArray) :=
  .agg _ _ (by simpa using hl) fun i u u' p q => h i u u' (by simpa using p) (by simpa using q)
theorem loadVar_run {P : Program} {T : Tys} (hT : TysOk P T) {t : TypeId} {ti : TyI} (ht : T.get t = some ti) {ρ : Ren} {l : Loc} {w : World} {cs : List Value} {sz : Nat} {wr sp : Bool} {ty : TypeId}
    (hB : BRel ρ l w (.cells cs sz wr sp ty)) {o : Nat} {v : Value} (hv : if ti.agg then o + ti.size ≤ cs.length ∧ v = .agg ((cs.drop o).take ti.size).toArray else cs[o]? = some v) :
    ∃ v', VRel ρ v v' ∧ (loadVar t ⟨l.blk, l.off + o, none⟩).run P w = .ok v' w := by
  have hI := (hT t ti ht).1
  cases ha : ti.agg with
  | true =>
    rw [ha] at hv
    obtain ⟨hn, rfl⟩ := hv
    obtain ⟨ds, d1, d2, d3⟩ := cells_part hB o ti.size hn
    refine ⟨.agg ds.toArray, toArray_rel (by simp only [List.length_take, List.length_drop]; omega) d3, ?_⟩
    have hr := run_loadCells_list (P := P) w ⟨l.blk, l.off + o, none⟩ ds (fun j v hj => by rw [add_plain]; exact d2 j v hj)
    rw [d1] at hr
    simp [loadVar, hI.agg_run, ha, hI.size_run, hr]
  | false =>
    rw [ha] at hv
    simp only [Bool.false_eq_true, if_false] at hv
    obtain ⟨h1, h2, h3, h4, h5, h6, c, t, fr, hty, h7, h8, h9, h10⟩ := hB
    obtain ⟨v', p, q⟩ := h9 _ _ hv
    refine ⟨v', q, ?_⟩
    have hc : w.cell? ⟨l.blk, l.off + o, none⟩ = some v' := by rw [cell_of h7, p]
    simp [loadVar, hI.agg_run, ha, run_load, hc]
theorem does_load {P : Program} {W0 : World} {o : Oper} {e : Env} {T : Tys} (hT : TysOk P T) {t : TypeId} {ti : TyI} (ht : T.get t = some ti) {x : Operand} {i off : Nat} (ho : o.op = .load t x)
    (hx : evO e x = some (.pointer (some ⟨i, off, none⟩))) {cs : List Value} {sz : Nat} {wr sp : Bool} {ty : TypeId} {v : Value}
    (hv : if ti.agg then off + ti.size ≤ cs.length ∧ v = .agg ((cs.drop off).take ti.size).toArray else cs[off]? = some v) :
    OpSem P W0 o e [(i, .cells cs sz wr sp ty)] [] [] (some v) := .of_run fun ρ h w a hR hO hrd => by
  obtain ⟨l, hl, e1⟩ := ptr_inv (hO x (by simp [ho, Op.operands]) _ hx)
  have hB := rd_blk hR hl (hrd _ (List.mem_singleton.mpr rfl))
  obtain ⟨v', q, r⟩ := loadVar_run hT ht hB hv
  exact ⟨v', q, by simp [execOp, ho, e1, Instr.loadAt, Instr.sureAddr, r]⟩

/-! ### writing -/
theorem VRel.cells {ρ : Ren} {v v' : Value} (h : VRel ρ v v') : v.cells.size = v'.cells.size ∧ ∀ (i : Nat) (u u' : Value), v.cells[i]? = some u → v'.cells[i]? = some u' → VRel ρ u u' := by
  have one : ∀ {v v' : Value}, v.cells = #[v] → v'.cells = #[v'] → VRel ρ v v' → v.cells.size = v'.cells.size ∧ ∀ (i : Nat) (u u' : Value), v.cells[i]? = some u → v'.cells[i]? = some u' → VRel ρ u u' := by
    intro v v' h1 h2 h3
    rw [h1, h2]
    refine ⟨rfl, fun i u u' p q => ?_⟩
    cases i with
    | zero => simp at p q; subst p; subst q; exact h3
    | succ i => simp at p
  cases h with
  | agg a a' h1 h2 => exact ⟨h1, h2⟩
  | bool b => exact one rfl rfl (.bool b)
  | int k n => exact one rfl rfl (.int k n)
  | string s => exact one rfl rfl (.string s)
  | ptrN => exact one rfl rfl .ptrN
  | ptr i o l hl => exact one rfl rfl (.ptr i o l hl)
  | sliceN n c => exact one rfl rfl (.sliceN n c)
  | slice i o n c l c' h1 h2 h3 h4 h5 => exact one rfl rfl (.slice i o n c l c' h1 h2 h3 h4 h5)
  | slice0 i o l x hl => exact one rfl rfl (.slice0 i o l x hl)
  | lst n cs arr b o c' h1 h2 h3 h4 => exact one rfl rfl (.lst n cs arr b o c' h1 h2 h3 h4)
  | lst0 cs p c' => exact one rfl rfl (.lst0 cs p c')
  | lptr o cs arr b a h1 h2 h3 => exact one rfl rfl (.lptr o cs arr b a h1 h2 h3)
  | mapN => exact one rfl rfl .mapN
  | map i l hl => exact one rfl rfl (.map i l hl)
  | func f a a' b b' h0 h1 h2 h3 h4 => exact one rfl rfl (.func f a a' b b' h0 h1 h2 h3 h4)
  | nilFunc => exact one rfl rfl .nilFunc
  | nilIface => exact one rfl rfl .nilIface
  | iface t v v' hv => exact one rfl rfl (.iface t v v' hv)
  | tuple a a' h1 h2 => exact one rfl rfl (.tuple a a' h1 h2)
theorem VRel.one {ρ : Ren} {v v' : Value} (h : VRel ρ v v') : v'.oneCell' = v.oneCell' := by cases h <;> rfl
theorem all_one {ρ : Ren} {us ds : List Value} (hl : us.length = ds.length) (h : ∀ (j : Nat) (u u' : Value), us[j]? = some u → ds[j]? = some u' → VRel ρ u u') (h1 : us.all (·.oneCell') = true) : ds.all (·.oneCell') = true := by
  rw [List.all_eq_true] at h1 ⊢
  intro d hd
  obtain ⟨j, hj, rfl⟩ := List.getElem_of_mem hd
  have hu : j < us.length := by omega
  rw [(h j us[j] ds[j] (by simp [hu]) (by simp [hj])).one]
  exact h1 _ (List.getElem_mem hu)
/-- The sketch's cells with some of them written. -/
def putL (cs : List Value) (o : Nat) (vs : List Value) : List Value := cs.take o ++ vs ++ cs.drop (o + vs.length)
theorem putL_length (cs : List Value) (o : Nat) (vs : List Value) (h : o + vs.length ≤ cs.length) : (putL cs o vs).length = cs.length := by
  simp [putL]; omega
theorem putL_get (cs : List Value) (o : Nat) (vs : List Value) (h : o + vs.length ≤ cs.length) (k : Nat) :
    (putL cs o vs)[k]? = if k < o then cs[k]? else if k < o + vs.length then vs[k - o]? else cs[k]? := by
  unfold putL
  have ht : (cs.take o).length = o := by simp; omega
  rw [List.append_assoc]
  by_cases h1 : k < o
  · rw [if_pos h1, List.getElem?_append_left (by omega), List.getElem?_take, if_pos h1]
  · rw [if_neg h1, List.getElem?_append_right (by omega), ht]
    by_cases h2 : k < o + vs.length
    · rw [if_pos h2, List.getElem?_append_left (by omega)]
    · rw [if_neg h2, List.getElem?_append_right (by omega), List.getElem?_drop]
      congr 1; omega
theorem brel_put {ρ : Ren} {l : Loc} {w : World} {cs : List Value} {sz : Nat} {sp : Bool} {ty : TypeId} {o : Nat} {us ds : List Value} {c : Array Value} {t : TypeId} {fr : Nat × Nat}
    (hB : BRel ρ l w (.cells cs sz true sp ty)) (hc : w.heap[l.blk]? = some (.cells c t fr)) (hn : o + us.length ≤ cs.length) (hl : us.length = ds.length)
    (h : ∀ (j : Nat) (u u' : Value), us[j]? = some u → ds[j]? = some u' → VRel ρ u u') :
    BRel ρ l (setObjW w l.blk (.cells (putAt c (l.off + o) ds) t fr)) (.cells (putL cs o us) sz true sp ty) := by
  obtain ⟨h1, h2, h3, h4, h5, h6, c', t', fr', hty, h7, h8, h9, h10⟩ := hB
  rw [hc] at h7; cases h7
  refine ⟨h1, h2, h3, h4, by rw [putL_length _ _ _ hn]; exact h5, h6, _, t, fr, hty, setObjW_at hc _, by rw [putAt_size]; exact h8, ?_, h10.1, fun z => ⟨(h10.2 z).1, by rw [putAt_size]; exact (h10.2 z).2⟩⟩
  intro k v hk
  rw [putL_get _ _ _ hn] at hk
  by_cases k1 : k < o
  · rw [if_pos k1] at hk
    obtain ⟨v', p, q⟩ := h9 k v hk
    exact ⟨v', by rw [putAt_out _ _ _ _ (by omega)]; exact p, q⟩
  · rw [if_neg k1] at hk
    by_cases k2 : k < o + us.length
    · rw [if_pos k2] at hk
      have hlt : k - o < ds.length := by omega
      refine ⟨ds[k - o], ?_, h (k - o) v ds[k - o] hk (by simp [hlt])⟩
      rw [show l.off + k = l.off + o + (k - o) by omega, putAt_in _ _ _ _ (by omega) hlt]
      simp [hlt]
    · rw [if_neg k2] at hk
      obtain ⟨v', p, q⟩ := h9 k v hk
      exact ⟨v', by rw [putAt_out _ _ _ _ (by omega)]; exact p, q⟩
/-- Cells of a block of the call's own are written. -/
theorem store_blk {P : Program} {W0 : World} {ρ : Ren} {h : AHeap} {w : World} (hR : Rel W0 ρ h w) {i o : Nat} {l : Loc} {cs us ds : List Value} {sz : Nat} {sp : Bool} {ty : TypeId} (hi : ρ i = some l)
    (hb : h[i]? = some (.cells cs sz true sp ty)) (hn : o + us.length ≤ cs.length) (h1 : us.all (·.oneCell') = true) (hl : us.length = ds.length)
    (hv : ∀ (j : Nat) (u u' : Value), us[j]? = some u → ds[j]? = some u' → VRel ρ u u') :
    ∃ w', (storeCells ⟨l.blk, l.off + o, none⟩ ds 0).run P w = .ok () w' ∧ Ext ρ w ρ w' ∧ Rel W0 ρ (h.set i (.cells (putL cs o us) sz true sp ty)) w' := by
  have hB := hR.blk i l _ hi hb
  have hB' := hB
  obtain ⟨g1, g2, g3, g4, g5, g6, c, t, fr, hty, g7, g8, g9, g10⟩ := hB'
  have hrun := run_storeCells_blk P l.blk (l.off + o) t fr ds 0 c w g7 (by omega) (fun k k1 k2 => g10.1 rfl k (by omega) (by omega)) (all_one hl hv h1)
  have hR2 := rel_set hR hi hb rfl (b := .cells (putL cs o us) sz true sp ty) rfl g3.symm _ (brel_put hB g7 hn hl hv)
  rw [Nat.add_zero] at hrun
  exact ⟨_, hrun, hR2.2, hR2.1⟩
theorem does_store {P : Program} {W0 : World} {o : Oper} {e : Env} {T : Tys} (hT : TysOk P T) {t : TypeId} {ti : TyI} (ht : T.get t = some ti) {x y : Operand} {i off : Nat} {v : Value} (ho : o.op = .store t x y)
    (hx : evO e x = some (.pointer (some ⟨i, off, none⟩))) (hy : evO e y = some v) {cs : List Value} {sz : Nat} {sp : Bool} {ty : TypeId}
    (hs : v.cells.toList.length = ti.size) (hn : off + v.cells.toList.length ≤ cs.length) (h1 : v.cells.toList.all (·.oneCell') = true) :
    OpSem P W0 o e [(i, .cells cs sz true sp ty)] [(i, .cells (putL cs off v.cells.toList) sz true sp ty)] [] none := by
  intro ρ h w a hR hO hrd _ next Q hnext
  obtain ⟨l, hl, e1⟩ := ptr_inv (hO x (by simp [ho, Op.operands]) _ hx)
  have e2 := (hO y (by simp [ho, Op.operands]) _ hy).cells
  have hb : h[i]? = some (.cells cs sz true sp ty) := hrd _ (List.mem_singleton.mpr rfl)
  have hlen : v.cells.toList.length = (a.eval y).cells.toList.length := by simpa using e2.1
  obtain ⟨w', hrun, hE, hR'⟩ := store_blk (P := P) hR (us := v.cells.toList) (ds := (a.eval y).cells.toList) hl hb hn h1 hlen
    (fun j u u' p q => e2.2 j u u' (by simpa using p) (by simpa using q))
  have hI := (hT t ti ht).1
  have hex : (execOp a.eval o).run P w = .ok .skip w' := by
    have hsz : (a.eval y).cells.size = ti.size := by rw [← Array.length_toList, ← hlen, hs]
    simp [execOp, ho, e1, Instr.storeAt, Instr.sureAddr, storeVar, hI.size_run, hsz, hrun]
  unfold Oper.wp
  rw [hex]
  exact hnext undef ρ w' (fun u hu => by cases hu) hE hR'

/-! ### new blocks -/
theorem brel_new {ρ : Ren} {w : World} {us ds : List Value} {t : TypeId} {sz : Nat} (hsz : 0 < sz) (hl : us.length = ds.length)
    (hv : ∀ (j : Nat) (u u' : Value), us[j]? = some u → ds[j]? = some u' → VRel ρ u u') :
    BRel ρ ⟨w.heap.size, 0, us.length, us.length, sz, true⟩ (w.alloc (.cells ds.toArray t)) (.cells us sz true false t) := by
  refine ⟨rfl, hsz, rfl, fun _ => rfl, rfl, Nat.le_refl _, ds.toArray, t, (0, 0), rfl, ?_, ?_, ?_, ?_, fun _ => ⟨rfl, by simp only [List.size_toArray]; omega⟩⟩
  · show (w.heap.push _)[w.heap.size]? = _; simp
  · simp only [List.size_toArray]; omega
  · intro k v hk
    have hlt : k < ds.length := by
      have := (List.getElem?_eq_some_iff.mp hk).1
      omega
    exact ⟨ds[k], by simp [hlt], hv k v ds[k] hk (by simp [hlt])⟩
  · intro _ k _ _
    simp
/-- A new row of cells. -/
theorem new_blk {W0 : World} {ρ : Ren} {h : AHeap} {w : World} (hR : Rel W0 ρ h w) {i : Nat} (hf : h[i]? = some .free) {us ds : List Value} (t : TypeId) {sz : Nat} (hsz : 0 < sz) (hl : us.length = ds.length)
    (hv : ∀ (j : Nat) (u u' : Value), us[j]? = some u → ds[j]? = some u' → VRel ρ u u') :
    let l : Loc := ⟨w.heap.size, 0, us.length, us.length, sz, true⟩
    Rel W0 (upd ρ i l) (h.set i (.cells us sz true false t)) (w.alloc (.cells ds.toArray t)) ∧ Ext ρ w (upd ρ i l) (w.alloc (.cells ds.toArray t)) :=
  rel_alloc hR hf _ _ _ rfl rfl fun ρ' s => brel_new hsz hl fun j u u' p q => (hv j u u' p q).mono s
theorem does_box {P : Program} {W0 : World} {o : Oper} {e : Env} {t : TypeId} {x : Operand} {v : Value} (n : Nat) (ho : o.op = .box t x) (hx : evO e x = some v) :
    OpSem P W0 o e [] [] [(n, .cells v.cells.toList 1 true false t)] (some (.pointer (some ⟨n, 0, none⟩))) := by
  intro ρ h w a hR hO hrd hal next Q hnext
  have hf := hal _ (List.mem_singleton.mpr rfl)
  have e2 := (hO x (by simp [ho, Op.operands]) _ hx).cells
  have hlen : v.cells.toList.length = (a.eval x).cells.toList.length := by simpa using e2.1
  obtain ⟨hR', hE⟩ := new_blk hR hf (us := v.cells.toList) (ds := (a.eval x).cells.toList) t (sz := 1) (by decide) hlen
    (fun j u u' p q => e2.2 j u u' (by simpa using p) (by simpa using q))
  have hex : (execOp a.eval o).run P w = .ok (.value (.pointer (some ⟨w.heap.size, 0, none⟩))) (w.alloc (.cells (a.eval x).cells.toList.toArray t)) := by
    simp [execOp, ho, Instr.box, newVar, newRow]
  unfold Oper.wp
  rw [hex]
  exact hnext _ _ _ (fun u hu => by cases hu; exact .ptr n 0 _ (upd_same _ _ _)) hE hR'
theorem does_alloc {P : Program} {W0 : World} {o : Oper} {e : Env} {T : Tys} (hT : TysOk P T) {t : TypeId} {ti : TyI} (ht : T.get t = some ti) (n : Nat) (ho : o.op = .alloc t) :
    OpSem P W0 o e [] [] [(n, .cells ti.zero 1 true false t)] (some (.pointer (some ⟨n, 0, none⟩))) := by
  intro ρ h w a hR hO hrd hal next Q hnext
  have hf := hal _ (List.mem_singleton.mpr rfl)
  have hI := (hT t ti ht).1
  obtain ⟨zv, z1, z2, _⟩ := hI.zero_run w
  obtain ⟨hR', hE⟩ := new_blk hR hf (us := ti.zero) (ds := ti.zero) t (sz := 1) (by decide) rfl
    (fun j u u' p q => by rw [p] at q; cases q; exact (cl1_af (List.all_eq_true.mp hI.zero_cl u (List.mem_of_getElem? p))).rel ρ)
  have hex : (execOp a.eval o).run P w = .ok (.value (.pointer (some ⟨w.heap.size, 0, none⟩))) (w.alloc (.cells ti.zero.toArray t)) := by
    have hz : zv.cells = ti.zero.toArray := by rw [← z2]
    simp [execOp, ho, Instr.alloc, z1, newVar, newRow, hz]
  unfold Oper.wp
  rw [hex]
  exact hnext _ _ _ (fun u hu => by cases hu; exact .ptr n 0 _ (upd_same _ _ _)) hE hR'
end Go.Den
namespace Go.Den
open Go Go.RowKit

/-- Two rows of cells, place by place. -/
def LRel (ρ : Ren) (us ds : List Value) : Prop := us.length = ds.length ∧ ∀ (j : Nat) (u u' : Value), us[j]? = some u → ds[j]? = some u' → VRel ρ u u'
theorem LRel.nil (ρ : Ren) : LRel ρ [] [] := ⟨rfl, fun j u u' p => by cases p⟩
theorem LRel.mono {ρ ρ' : Ren} (s : Sub ρ ρ') {us ds : List Value} (h : LRel ρ us ds) : LRel ρ' us ds := ⟨h.1, fun j u u' p q => (h.2 j u u' p q).mono s⟩
theorem LRel.refl {ρ : Ren} {us : List Value} (h : us.all cl1 = true) : LRel ρ us us :=
  ⟨rfl, fun j u u' p q => by rw [p] at q; cases q; exact (cl1_af (List.all_eq_true.mp h u (List.mem_of_getElem? p))).rel ρ⟩
theorem LRel.app {ρ : Ren} {a b c d : List Value} (h : LRel ρ a c) (k : LRel ρ b d) : LRel ρ (a ++ b) (c ++ d) := by
  refine ⟨by simp [h.1, k.1], fun j u u' p q => ?_⟩
  by_cases hj : j < a.length
  · rw [List.getElem?_append_left hj] at p
    rw [List.getElem?_append_left (by rw [← h.1]; exact hj)] at q
    exact h.2 j u u' p q
  · rw [List.getElem?_append_right (by omega)] at p
    rw [List.getElem?_append_right (by have := h.1; omega)] at q
    rw [← h.1] at q
    exact k.2 _ u u' p q
theorem LRel.cons {ρ : Ren} {u u' : Value} {us ds : List Value} (h : VRel ρ u u') (k : LRel ρ us ds) : LRel ρ (u :: us) (u' :: ds) := by
  refine ⟨by simp [k.1], fun j v v' p q => ?_⟩
  cases j with
  | zero => cases p; cases q; exact h
  | succ j => exact k.2 j v v' p q
theorem LRel.take {ρ : Ren} {us ds : List Value} (h : LRel ρ us ds) (n : Nat) : LRel ρ (us.take n) (ds.take n) := by
  refine ⟨by simp [h.1], fun j u u' p q => ?_⟩
  rw [List.getElem?_take] at p q
  split at p
  · rename_i hj; rw [if_pos hj] at q; exact h.2 j u u' p q
  · cases p
theorem LRel.drop {ρ : Ren} {us ds : List Value} (h : LRel ρ us ds) (n : Nat) : LRel ρ (us.drop n) (ds.drop n) := by
  refine ⟨by simp [h.1], fun j u u' p q => ?_⟩
  rw [List.getElem?_drop] at p q
  exact h.2 _ u u' p q
theorem VRel.lcells {ρ : Ren} {v v' : Value} (h : VRel ρ v v') : LRel ρ v.cells.toList v'.cells.toList :=
  ⟨by simpa using h.cells.1, fun j u u' p q => h.cells.2 j u u' (by simpa using p) (by simpa using q)⟩
theorem LRel.arr {ρ : Ren} {us ds : List Value} (h : LRel ρ us ds) : VRel ρ (.agg us.toArray) (.agg ds.toArray) := toArray_rel h.1 h.2
theorem putAt_toList (ds : List Value) : ∀ (c : Array Value) (o : Nat), o + ds.length ≤ c.size → (putAt c o ds).toList = putL c.toList o ds := by
  intro c o h
  apply List.ext_getElem?
  intro k
  rw [putL_get _ _ _ (by simpa using h), Array.getElem?_toList]
  by_cases h1 : k < o
  · rw [if_pos h1, putAt_out _ _ _ _ (.inl h1), Array.getElem?_toList]
  · rw [if_neg h1]
    by_cases h2 : k < o + ds.length
    · rw [if_pos h2]
      have := putAt_in ds c o (k - o) h (by omega)
      rw [show o + (k - o) = k by omega] at this
      exact this
    · rw [if_neg h2, putAt_out _ _ _ _ (.inr (by omega)), Array.getElem?_toList]
theorem LRel.put {ρ : Ren} {cs ds us vs : List Value} (h : LRel ρ cs ds) (k : LRel ρ us vs) (o : Nat) : LRel ρ (putL cs o us) (putL ds o vs) := by
  unfold putL
  rw [k.1]
  exact ((h.take o).app k).app (h.drop _)

/-! ### composite values -/
def evL (e : Env) : List (Nat × Operand) → Option (List (Nat × Value))
  | [] => some []
  | (i, x) :: r => match evO e x with
    | some v => match evL e r with
      | some l => some ((i, v) :: l)
      | none => none
    | none => none
/-- Parts put into a row of cells. -/
def fillL (pl : Nat → Option (Nat × Nat)) (cs : List Value) : List (Nat × Value) → Option (List Value)
  | [] => some cs
  | (i, v) :: r => match pl i with
    | some (off, n) => bif Nat.beq v.cells.toList.length n && Nat.ble (off + n) cs.length then fillL pl (putL cs off v.cells.toList) r else none
    | none => none
inductive PRel (ρ : Ren) : List (Nat × Value) → List (Nat × Value) → Prop
  | nil : PRel ρ [] []
  | cons (i : Nat) (v v' : Value) (l l' : List (Nat × Value)) : VRel ρ v v' → PRel ρ l l' → PRel ρ ((i, v) :: l) ((i, v') :: l')
theorem evL_rel {ρ : Ren} {e : Env} {a : Act} : ∀ (ps : List (Nat × Operand)) (l : List (Nat × Value)), (∀ x ∈ ps, ∀ v, evO e x.2 = some v → VRel ρ v (a.eval x.2)) → evL e ps = some l →
    PRel ρ l (ps.map fun p => (p.1, a.eval p.2))
  | [], l, _, h => by cases h; exact .nil
  | (i, x) :: r, l, hx, h => by
    unfold evL at h
    split at h
    · rename_i v hv
      split at h
      · rename_i l' hl
        cases h
        exact .cons i v _ l' _ (hx _ (List.mem_cons_self ..) v hv) (evL_rel r l' (fun y hy => hx y (List.mem_cons_of_mem _ hy)) hl)
      · cases h
    · cases h
theorem fold_put (vs : List Value) : ∀ (c : Array Value) (o k : Nat), (vs.zipIdx k).foldl (fun cs (p : Value × Nat) => cs.setIfInBounds (o + p.2) p.1) c = putAt c (o + k) vs := by
  induction vs with
  | nil => intro c o k; rfl
  | cons v r ih => intro c o k; simp only [List.zipIdx_cons, List.foldl_cons, putAt]; rw [ih]; rfl
theorem fold_putA (vs : Array Value) (c : Array Value) (o : Nat) : vs.zipIdx.foldl (fun cs (p : Value × Nat) => cs.setIfInBounds (o + p.2) p.1) c = putAt c o vs.toList := by
  rw [← Array.foldl_toList, Array.toList_zipIdx, fold_put]; rfl
theorem fill_rel {ρ : Ren} {pl : Nat → Option (Nat × Nat)} {l l' : List (Nat × Value)} (h : PRel ρ l l') : ∀ (cs : List Value) (c : Array Value) (out : List Value), LRel ρ cs c.toList → fillL pl cs l = some out →
    ∃ out' : Array Value, Instr.fill pl c l' = some out' ∧ LRel ρ out out'.toList := by
  induction h with
  | nil => intro cs c out hc h; cases h; exact ⟨c, rfl, hc⟩
  | cons i v v' l l' hv hl ih =>
    intro cs c out hc h
    unfold fillL at h
    split at h
    · rename_i off n hp
      cases hb : (Nat.beq v.cells.toList.length n && Nat.ble (off + n) cs.length) with
      | false => rw [hb] at h; cases h
      | true =>
        rw [hb] at h
        simp only [Bool.and_eq_true] at hb
        have b1 := Nat.eq_of_beq_eq_true hb.1
        have b2 := Nat.le_of_ble_eq_true hb.2
        have hL := hv.lcells
        have hsz : v'.cells.size = n := by rw [← Array.length_toList, ← hL.1, b1]
        have hcs : cs.length = c.size := by rw [hc.1, Array.length_toList]
        have hput : LRel ρ (putL cs off v.cells.toList) (putAt c off v'.cells.toList).toList := by
          rw [putAt_toList _ _ _ (by rw [Array.length_toList]; omega)]
          exact hc.put hL off
        obtain ⟨out', p, q⟩ := ih _ _ _ hput h
        refine ⟨out', ?_, q⟩
        unfold Instr.fill
        simp only [hp]
        rw [if_neg (by simp [hsz]; omega), fold_putA]
        exact p
    · cases h
def placesOf (fs : List (Nat × Nat × Bool)) (i : Nat) : Option (Nat × Nat) := match fs[i]? with
  | some x => some (x.1, x.2.1)
  | none => none
theorem mapM_run {α β : Type} {P : Program} {w : World} (f : α → Sem β) (g : α → β) : ∀ (l : List α), (∀ x ∈ l, (f x).run P w = .ok (g x) w) → (l.mapM f).run P w = .ok (l.map g) w
  | [], _ => by simp
  | x :: r, h => by
    rw [List.mapM_cons]
    simp only [Sem.run_bind, h x (List.mem_cons_self ..), Result.andThen_ok, mapM_run f g r (fun y hy => h y (List.mem_cons_of_mem _ hy)), Sem.run_pure, List.map_cons]
theorem mapM_runA {α β : Type} {P : Program} {w : World} (f : α → Sem β) (g : α → β) (l : Array α) (h : ∀ x ∈ l, (f x).run P w = .ok (g x) w) : (l.mapM f).run P w = .ok (l.map g) w := by
  rw [Array.mapM_eq_mapM_toList]
  simp only [Sem.run_map, mapM_run f g l.toList (fun x hx => h x (Array.mem_toList_iff.mp hx)), Result.andThen_ok]
  congr 1
  apply Array.ext'
  simp
theorem does_build {P : Program} {W0 : World} {o : Oper} {e : Env} {T : Tys} (hT : TysOk P T) {t : TypeId} {ti : TyI} (ht : T.get t = some ti) {fs : List (Nat × Nat × Bool)} (hsh : ti.sh = .struct fs)
    {ps : Array (Nat × Operand)} (ho : o.op = .build t ps) {l : List (Nat × Value)} (hl : evL e ps.toList = some l) {out : List Value} (hf : fillL (placesOf fs) ti.zero l = some out) :
    OpSem P W0 o e [] [] [] (some (.agg out.toArray)) := .of_run fun ρ h w a hR hO hrd => by
  have hI := (hT t ti ht).1
  have hs := (hT t ti ht).2
  rw [hsh] at hs
  obtain ⟨fields, u1, u2, u3⟩ := hs
  obtain ⟨zv, z1, z2, _⟩ := hI.zero_run w
  have hP := evL_rel (ρ := ρ) (a := a) ps.toList l (fun x hx v hv => hO x.2 (by simp only [ho, Op.operands]; exact List.mem_toArray.mpr (List.mem_map.mpr ⟨x, hx, rfl⟩)) v hv) hl
  have hz : LRel ρ ti.zero zv.cells.toList := by rw [z2]; exact .refl hI.zero_cl
  obtain ⟨out', p, q⟩ := fill_rel hP _ _ _ hz hf
  refine ⟨.agg out', ?_, ?_⟩
  · have := q.arr; rwa [Array.toArray_toList] at this
  have hpl : ∀ f ∈ fields, ((do pure (f.offset, ← sizeOf f.type) : Sem (Nat × Nat))).run P w = .ok (f.offset, ((P.info? f.type).map (·.size)).getD 0) w := by
    intro f hf'
    obtain ⟨k, hk, rfl⟩ := Array.getElem_of_mem hf'
    obtain ⟨f', g1, g2, info, d, g3, g4, _⟩ := u3 k fs[k] (by simp)
    have : f' = fields[k] := by rw [Array.getElem?_eq_getElem hk] at g1; exact (Option.some.inj g1).symm
    subst this
    simp [sizeOf, run_typeInfo g3, g3]
  have hmap := mapM_runA (P := P) (w := w) (fun f : Field => (do pure (f.offset, ← sizeOf f.type) : Sem (Nat × Nat))) _ fields hpl
  have hpls : (fun i => (fields.map fun f : Field => (f.offset, ((P.info? f.type).map (·.size)).getD 0))[i]?) = placesOf fs := by
    funext i
    unfold placesOf
    rw [Array.getElem?_map]
    cases hfi : fs[i]? with
    | none =>
      have : fields[i]? = none := by
        rw [Array.getElem?_eq_none]; rw [u2]
        exact List.getElem?_eq_none_iff.mp hfi
      rw [this]; rfl
    | some x =>
      obtain ⟨f', g1, g2, info, d, g3, g4, _⟩ := u3 i x hfi
      rw [g1]
      simp [g2, g3, g4]
  have hps : (ps.map fun (x : Nat × Operand) => (x.1, a.eval x.2)).toList = ps.toList.map fun p => (p.1, a.eval p.2) := by simp
  have hfin : Instr.fill (fun i => (fields.map fun f : Field => (f.offset, ((P.info? f.type).map (·.size)).getD 0))[i]?) zv.cells (ps.map fun (x : Nat × Operand) => (x.1, a.eval x.2)).toList = some out' := by
    rw [hpls, hps]; exact p
  simp only [execOp, ho, Instr.build, Sem.run_bind, z1, Result.andThen_ok, run_underlying u1, hmap]
  rw [hfin]
  simp
end Go.Den
namespace Go.Den
open Go Go.RowKit
section
variable {P : Program} {W0 : World} {o : Oper} {e : Env}

theorem field_sh {T : Tys} (hT : TysOk P T) {t : TypeId} {ti : TyI} (ht : T.get t = some ti) {fs : List (Nat × Nat × Bool)} (hsh : ti.sh = .struct fs) {k : Nat} {x : Nat × Nat × Bool} (hk : fs[k]? = some x) :
    ∃ (fields : Array Field) (f : Field) (info : TypeInfo) (d : TypeDesc), P.underlying t = some (.struct fields) ∧ fields[k]? = some f ∧ f.offset = x.1 ∧ P.info? f.type = some info ∧ info.size = x.2.1 ∧ P.underlying f.type = some d ∧ aggD d = x.2.2 := by
  have hs := (hT t ti ht).2
  rw [hsh] at hs
  obtain ⟨fields, u1, u2, u3⟩ := hs
  obtain ⟨f, g1, g2, info, d, g3, g4, g5, g6⟩ := u3 k x hk
  exact ⟨fields, f, info, d, u1, g1, g2, g3, g4, g5, g6⟩
theorem does_fieldAddr {T : Tys} (hT : TysOk P T) {t : TypeId} {ti : TyI} (ht : T.get t = some ti) {fs : List (Nat × Nat × Bool)} (hsh : ti.sh = .struct fs) {k : Nat} {x : Nat × Nat × Bool} (hk : fs[k]? = some x)
    (hsz : x.2.1 ≠ 0) {y : Operand} {i off : Nat} (ho : o.op = .fieldAddr t y k) (hy : evO e y = some (.pointer (some ⟨i, off, none⟩))) :
    OpSem P W0 o e [] [] [] (some (.pointer (some ⟨i, off + x.1, none⟩))) := .of_run fun ρ h w a hR hO hrd => by
  obtain ⟨fields, f, info, d, u1, g1, g2, g3, g4, _⟩ := field_sh hT ht hsh hk
  obtain ⟨l, hl, e1⟩ := ptr_inv (hO y (by simp [ho, Op.operands]) _ hy)
  refine ⟨_, .ptr i (off + x.1) l hl, ?_⟩
  have hz : ¬ info.size = 0 := by rw [g4]; exact hsz
  simp only [execOp, ho, e1, Instr.fieldAt, Sem.run_bind, run_underlying u1, Result.andThen_ok, g1, Instr.sureAddr, Sem.run_pure, fieldPlace, sizeOf, run_typeInfo g3, if_neg hz, Sem.run_ite, g2, add_plain]
  simp [Nat.add_assoc, hz, sizeOf, run_typeInfo g3]
/-- A part of a composite value. -/
def partV (cs : List Value) (off n : Nat) (agg : Bool) (v : Value) : Prop := if agg then v = .agg ((cs.drop off).take n).toArray else cs[off]? = some v
theorem part_run {t : TypeId} {info : TypeInfo} {d : TypeDesc} (g3 : P.info? t = some info) (g5 : P.underlying t = some d) {ρ : Ren} {cs : List Value} {ds : Array Value} (hL : LRel ρ cs ds.toList) {off : Nat} {v : Value}
    (hv : partV cs off info.size (aggD d) v) (w : World) : ∃ v', VRel ρ v v' ∧ (part t ds off).run P w = .ok v' w := by
  have ha : (isAgg t).run P w = .ok (aggD d) w := by
    simp only [isAgg, Sem.run_bind, run_underlying g5, Result.andThen_ok]; cases d <;> rfl
  unfold partV at hv
  cases hb : aggD d with
  | true =>
    rw [hb, if_pos rfl] at hv
    subst hv
    refine ⟨.agg ((ds.toList.drop off).take info.size).toArray, ((hL.drop off).take info.size).arr, ?_⟩
    have : (ds.extract off (off + info.size)) = ((ds.toList.drop off).take info.size).toArray := by
      apply Array.ext'
      rw [Array.toList_extract]
      simp [List.extract_eq_take_drop]
    simp [part, ha, hb, sizeOf, run_typeInfo g3, this]
  | false =>
    rw [hb] at hv
    simp only [Bool.false_eq_true, if_false] at hv
    have hlt : off < ds.toList.length := by
      rw [← hL.1]; exact (List.getElem?_eq_some_iff.mp hv).1
    refine ⟨ds.toList[off], hL.2 off v _ hv (by simp), ?_⟩
    have : ds[off]? = some ds.toList[off] := by
      rw [Array.length_toList] at hlt
      simp [hlt]
    simp [part, ha, hb, this]
theorem agg_inv {ρ : Ren} {cs : Array Value} {v' : Value} (h : VRel ρ (.agg cs) v') : ∃ ds : Array Value, v' = .agg ds ∧ LRel ρ cs.toList ds.toList := by
  cases h with | agg _ a' h1 h2 => exact ⟨a', rfl, by simpa using h1, fun j u u' p q => h2 j u u' (by simpa using p) (by simpa using q)⟩
theorem does_field {T : Tys} (hT : TysOk P T) {t : TypeId} {ti : TyI} (ht : T.get t = some ti) {fs : List (Nat × Nat × Bool)} (hsh : ti.sh = .struct fs) {k : Nat} {x : Nat × Nat × Bool} (hk : fs[k]? = some x)
    {y : Operand} {cs : Array Value} {v : Value} (ho : o.op = .field t y k) (hy : evO e y = some (.agg cs)) (hv : partV cs.toList x.1 x.2.1 x.2.2 v) :
    OpSem P W0 o e [] [] [] (some v) := .of_run fun ρ h w a hR hO hrd => by
  obtain ⟨fields, f, info, d, u1, g1, g2, g3, g4, g5, g6⟩ := field_sh hT ht hsh hk
  obtain ⟨ds, e1, hL⟩ := agg_inv (hO y (by simp [ho, Op.operands]) _ hy)
  obtain ⟨v', q, r⟩ := part_run g3 g5 hL (off := x.1) (v := v) (by rw [g4, g6]; exact hv) w
  refine ⟨v', q, ?_⟩
  simp [execOp, ho, e1, Instr.field, run_underlying u1, g1, asAgg, g2, r]
theorem slice_inv {ρ : Ren} {i off n c : Nat} {v' : Value} (h : VRel ρ (.slice (some ⟨i, off, none⟩) n c) v') (hn : 0 < n) :
    ∃ l c', ρ i = some l ∧ v' = .slice (some ⟨l.blk, l.off + off, none⟩) n c' ∧ n ≤ c ∧ off + c * l.sz ≤ l.n ∧ (off + c * l.sz = l.n → c ≤ c' ∧ off + c' * l.sz ≤ l.ext) ∧ (off + c * l.sz ≠ l.n → c' = c) := by
  cases h with
  | slice _ _ _ _ l c' hl h1 h2 h3 h4 => exact ⟨l, c', hl, rfl, h1, h2, h3, h4⟩
  | slice0 _ _ l x hl => omega
theorem does_indexAddr {T : Tys} (hT : TysOk P T) {t : TypeId} {ti : TyI} (ht : T.get t = some ti) {esz eb : Nat} {ea : Bool} {ez : List Value} {et : TypeId} (hsh : ti.sh = .slice esz eb ea ez et) {x y : Operand}
    {i off n c : Nat} {k : IntKind} {j : Int} (ho : o.op = .indexAddr t x y) (hx : evO e x = some (.slice (some ⟨i, off, none⟩) n c)) (hy : evO e y = some (.int k j)) (h0 : 0 ≤ j) (h1 : j < n) :
    OpSem P W0 o e [] [] [] (some (.pointer (some ⟨i, off + j.toNat * esz, none⟩))) := .of_run fun ρ h w a hR hO hrd => by
  have hs := (hT t ti ht).2
  rw [hsh] at hs
  obtain ⟨u1, hI⟩ := hs
  obtain ⟨l, c', hl, e1, _⟩ := slice_inv (hO x (by simp [ho, Op.operands]) _ hx) (by omega)
  have e2 := (AF.int k j).eq (hO y (by simp [ho, Op.operands]) _ hy)
  refine ⟨_, .ptr i (off + j.toNat * esz) l hl, ?_⟩
  have hj : 0 ≤ j ∧ j < (n : Int) := ⟨h0, h1⟩
  simp [execOp, ho, e1, e2, Instr.indexAt, asIntOf, run_underlying u1, hj, hI.size_run, add_plain, Nat.add_assoc]
theorem does_indexAddrA {T : Tys} (hT : TysOk P T) {t : TypeId} {ti : TyI} (ht : T.get t = some ti) {n esz : Nat} {ea : Bool} (hsh : ti.sh = .arr n esz ea) {x y : Operand}
    {i off : Nat} {k : IntKind} {j : Int} (ho : o.op = .indexAddr t x y) (hx : evO e x = some (.pointer (some ⟨i, off, none⟩))) (hy : evO e y = some (.int k j)) (h0 : 0 ≤ j) (h1 : j < n) :
    OpSem P W0 o e [] [] [] (some (.pointer (some ⟨i, off + j.toNat * esz, none⟩))) := .of_run fun ρ h w a hR hO hrd => by
  have hs := (hT t ti ht).2
  rw [hsh] at hs
  obtain ⟨et, info, d, u1, u2, u3, _⟩ := hs
  obtain ⟨l, hl, e1⟩ := ptr_inv (hO x (by simp [ho, Op.operands]) _ hx)
  have e2 := (AF.int k j).eq (hO y (by simp [ho, Op.operands]) _ hy)
  refine ⟨_, .ptr i (off + j.toNat * esz) l hl, ?_⟩
  have hj : 0 ≤ j ∧ j < (n : Int) := ⟨h0, h1⟩
  simp [execOp, ho, e1, e2, Instr.indexAt, asIntOf, run_underlying u1, hj, sizeOf, run_typeInfo u2, u3, add_plain, Nat.add_assoc, Instr.sureAddr]
def byteAt (s : ByteArray) (i : Int) : Int := ((s.data.toList.getD i.toNat 0).toNat : Int)
theorem does_indexS {T : Tys} (hT : TysOk P T) {t : TypeId} {ti : TyI} (ht : T.get t = some ti) (hsh : ti.sh = .string) {x y : Operand} {s : ByteArray} {k : IntKind} {j : Int} (ho : o.op = .index t x y)
    (hx : evO e x = some (.string s)) (hy : evO e y = some (.int k j)) (h0 : 0 ≤ j) (h1 : j < s.size) : OpSem P W0 o e [] [] [] (some (.int .u8 (byteAt s j))) := by
  have hs := (hT t ti ht).2
  rw [hsh] at hs
  refine opSem_pure2 (x := x) (y := y) (by simp [ho, Op.operands]) (by simp [ho, Op.operands]) hx hy (.string _) (.int _ _) (.int _ _) fun w ev e1 e2 => ?_
  have hlt : j.toNat < s.size := by omega
  have hg : (if 0 ≤ j then s[j.toNat]? else none) = some (s[j.toNat]'hlt) := by rw [if_pos h0]; exact getElem?_pos s j.toNat hlt
  have hb : byteAt s j = ((s[j.toNat]'hlt).toNat : Int) := by
    unfold byteAt
    have hlt' : j.toNat < s.data.toList.length := by rw [Array.length_toList]; exact hlt
    rw [List.getD_eq_getElem?_getD, List.getElem?_eq_getElem hlt']; rfl
  simp only [execOp, ho, e1, e2, Instr.index, asIntOf, Sem.run_bind, Sem.run_pure, Result.andThen_ok, run_underlying hs, hg, hb]
theorem does_indexA {T : Tys} (hT : TysOk P T) {t : TypeId} {ti : TyI} (ht : T.get t = some ti) {n esz : Nat} {ea : Bool} (hsh : ti.sh = .arr n esz ea) {x y : Operand} {cs : Array Value} {k : IntKind} {j : Int} {v : Value} (ho : o.op = .index t x y)
    (hx : evO e x = some (.agg cs)) (hy : evO e y = some (.int k j)) (h0 : 0 ≤ j) (h1 : j < n) (hv : partV cs.toList (j.toNat * esz) esz ea v) : OpSem P W0 o e [] [] [] (some v) := .of_run fun ρ h w a hR hO hrd => by
  have hs := (hT t ti ht).2
  rw [hsh] at hs
  obtain ⟨et, info, d, u1, u2, u3, u4, u5⟩ := hs
  obtain ⟨ds, e1, hL⟩ := agg_inv (hO x (by simp [ho, Op.operands]) _ hx)
  have e2 := (AF.int k j).eq (hO y (by simp [ho, Op.operands]) _ hy)
  obtain ⟨v', q, r⟩ := part_run u2 u4 hL (off := j.toNat * esz) (v := v) (by rw [u3, u5]; exact hv) w
  refine ⟨v', q, ?_⟩
  have hj : 0 ≤ j ∧ j < (n : Int) := ⟨h0, h1⟩
  simp [execOp, ho, e1, e2, Instr.index, asIntOf, run_underlying u1, hj, sizeOf, run_typeInfo u2, u3, r]
theorem tuple_inv {ρ : Ren} {cs : Array Value} {v' : Value} (h : VRel ρ (.tuple cs) v') : ∃ ds : Array Value, v' = .tuple ds ∧ LRel ρ cs.toList ds.toList := by
  cases h with | tuple _ a' h1 h2 => exact ⟨a', rfl, by simpa using h1, fun j u u' p q => h2 j u u' (by simpa using p) (by simpa using q)⟩
theorem does_extract {x : Operand} {vs : Array Value} {k : Nat} {v : Value} (ho : o.op = .extract x k) (hx : evO e x = some (.tuple vs)) (hv : vs.toList[k]? = some v) : OpSem P W0 o e [] [] [] (some v) := .of_run fun ρ h w a hR hO hrd => by
  obtain ⟨ds, e1, hL⟩ := tuple_inv (hO x (by simp [ho, Op.operands]) _ hx)
  have hlt : k < ds.size := by
    rw [← Array.length_toList, ← hL.1]; exact (List.getElem?_eq_some_iff.mp hv).1
  refine ⟨ds[k], hL.2 k v _ hv (by simp [hlt]), ?_⟩
  simp [execOp, ho, e1, Instr.extract, hlt]
theorem does_nilCheck {x : Operand} {v : Value} (ho : o.op = .nilCheck x) (hx : evO e x = some v) (hk : (∃ a, v = .pointer (some a)) ∨ (∃ f a b, v = .func (.func f) a b)) : OpSem P W0 o e [] [] [] (some v) := .of_run fun ρ h w a hR hO hrd => by
  have h1 := hO x (by simp [ho, Op.operands]) _ hx
  refine ⟨_, h1, ?_⟩
  rcases hk with ⟨p, rfl⟩ | ⟨f, b, c, rfl⟩
  · obtain ⟨v', hv'⟩ : ∃ v', a.eval x = v' := ⟨_, rfl⟩
    rw [hv'] at h1
    cases h1
    simp [execOp, ho, hv']
  · obtain ⟨v', hv'⟩ : ∃ v', a.eval x = v' := ⟨_, rfl⟩
    rw [hv'] at h1
    cases h1
    simp [execOp, ho, hv']
theorem does_mkIface {T : Tys} (hT : TysOk P T) {t : TypeId} {ti : TyI} (ht : T.get t = some ti) (hsh : match ti.sh with | .iface | .other => False | _ => True) {x : Operand} {v : Value} (ho : o.op = .makeInterface t x) (hx : evO e x = some v) :
    OpSem P W0 o e [] [] [] (some (.iface t v)) := .of_run fun ρ h w a hR hO hrd => by
  refine ⟨_, .iface t _ _ (hO x (by simp [ho, Op.operands]) _ hx), ?_⟩
  have hs := (hT t ti ht).2
  have hd : ∃ d, P.underlying t = some d ∧ ∀ m, d ≠ .interface m := by
    cases hq : ti.sh <;> rw [hq] at hs hsh <;> simp only [shOk] at hs <;> first
      | exact hsh.elim
      | exact ⟨_, hs, by simp⟩
      | (obtain ⟨_, hs⟩ := hs; exact ⟨_, hs, by simp⟩)
      | (obtain ⟨hs, _⟩ := hs; exact ⟨_, hs, by simp⟩)
      | (obtain ⟨_, hs, _⟩ := hs; exact ⟨_, hs, by simp⟩)
      | (obtain ⟨_, _, hs, _, _⟩ := hs; exact ⟨_, hs, by simp⟩)
      | (obtain ⟨_, _, _, hs, _⟩ := hs; exact ⟨_, hs, by simp⟩)
      | (obtain ⟨_, _, _, _, hs, _⟩ := hs; exact ⟨_, hs, by simp⟩)
      | (obtain ⟨_, _, _, hs⟩ := hs; exact ⟨_, hs, by simp⟩)
  obtain ⟨d, hd, hn⟩ := hd
  simp only [execOp, ho, Instr.makeInterface, Sem.run_bind, run_underlying hd, Result.andThen_ok]
  cases d <;> first | rfl | exact absurd rfl (hn _)
def evA (e : Env) : List Operand → Option (List Value)
  | [] => some []
  | x :: r => match evO e x with
    | some v => match evA e r with
      | some l => some (v :: l)
      | none => none
    | none => none
theorem evA_rel {ρ : Ren} {e : Env} {a : Act} : ∀ (ps : List Operand) (l : List Value), (∀ x ∈ ps, ∀ v, evO e x = some v → VRel ρ v (a.eval x)) → evA e ps = some l → LRel ρ l (ps.map a.eval)
  | [], l, _, h => by cases h; exact .nil ρ
  | x :: r, l, hx, h => by
    unfold evA at h
    split at h
    · rename_i v hv
      split at h
      · rename_i l' hl
        cases h
        exact .cons (hx _ (List.mem_cons_self ..) v hv) (evA_rel r l' (fun y hy => hx y (List.mem_cons_of_mem _ hy)) hl)
      · cases h
    · cases h
theorem LRel.arrs {ρ : Ren} {us ds : List Value} (h : LRel ρ us ds) : us.toArray.size = ds.toArray.size ∧ ∀ (i : Nat) (u u' : Value), us.toArray[i]? = some u → ds.toArray[i]? = some u' → VRel ρ u u' :=
  ⟨by simpa using h.1, fun i u u' p q => h.2 i u u' (by simpa using p) (by simpa using q)⟩
theorem does_mkFunc {f : Fn} {as bs : Array Operand} {us vs : List Value} (hf : notY f = true) (ho : o.op = .makeFunc f as bs) (ha : evA e as.toList = some us) (hb : evA e bs.toList = some vs) :
    OpSem P W0 o e [] [] [] (some (.func f us.toArray vs.toArray)) := .of_run fun ρ h w a hR hO hrd => by
  have h1 := evA_rel (ρ := ρ) (a := a) as.toList us (fun x hx v hv => hO x (by simp only [ho, Op.operands]; exact Array.mem_append.mpr (.inl (Array.mem_toList_iff.mp hx))) v hv) ha
  have h2 := evA_rel (ρ := ρ) (a := a) bs.toList vs (fun x hx v hv => hO x (by simp only [ho, Op.operands]; exact Array.mem_append.mpr (.inr (Array.mem_toList_iff.mp hx))) v hv) hb
  refine ⟨_, .func f _ _ _ _ (notY_ne hf) h1.arrs.1 h1.arrs.2 h2.arrs.1 h2.arrs.2, ?_⟩
  have e1 : as.map a.eval = (as.toList.map a.eval).toArray := by apply Array.ext'; simp
  have e2 : bs.map a.eval = (bs.toList.map a.eval).toArray := by apply Array.ext'; simp
  simp only [execOp, ho, Instr.makeFunc, Sem.run_bind, Sem.run_pure, Result.andThen_ok, e1, e2]
end
end Go.Den
namespace Go.Den
open Go Go.RowKit
section
variable {P : Program} {W0 : World} {o : Oper} {e : Env}

/-- A bound of a slice expression: a number, or where there is none the number d. -/
def Bnd (e : Env) (x : Option Operand) (d n : Nat) : Prop := match x with
  | none => n = d
  | some x => ∃ k, evO e x = some (.int k n)
def BndV (x : Option Value) (d n : Nat) : Prop := match x with
  | none => n = d
  | some v => ∃ k, v = .int k n
theorem Bnd.val {x : Option Operand} {d n : Nat} (h : Bnd e x d n) {ρ : Ren} {a : Act} (hO : ∀ y, x = some y → ∀ v, evO e y = some v → VRel ρ v (a.eval y)) : BndV (x.map a.eval) d n := by
  cases x with
  | none => exact h
  | some y =>
    obtain ⟨k, hk⟩ := h
    exact ⟨k, (AF.int k n).eq (hO y rfl _ hk)⟩
theorem run_sliceBound' {k : IntKind} {i y : Nat} {code : BoundsCode} (h : i ≤ y) (w : World) : (Instr.sliceBound (.int k i) y code).run P w = .ok i w := by
  have : (0 : Int) ≤ (i : Int) ∧ (i : Int) ≤ (y : Int) := by omega
  simp [Instr.sliceBound, asIntOf, this, h]
theorem run_bounds {b : Bool} {len cap L H : Nat} {lo hi : Option Value} (hL : BndV lo 0 L) (hH : BndV hi len H) (h1 : L ≤ H) (h2 : H ≤ cap) (w : World) :
    (Instr.sliceBounds b len cap lo hi none).run P w = .ok (L, H, cap) w := by
  cases hi with
  | none =>
    cases hH
    cases lo with
    | none => cases hL; simp [Instr.sliceBounds]
    | some v =>
      obtain ⟨k, rfl⟩ := hL
      simp [Instr.sliceBounds, run_sliceBound' h1]
  | some u =>
    obtain ⟨j, rfl⟩ := hH
    cases lo with
    | none => cases hL; simp [Instr.sliceBounds, run_sliceBound' h2]
    | some v =>
      obtain ⟨k, rfl⟩ := hL
      simp [Instr.sliceBounds, run_sliceBound' h1, run_sliceBound' h2]
theorem run_bounds3 {b : Bool} {len cap L H M : Nat} {lo hi mx : Option Value} (hL : BndV lo 0 L) (hH : ∃ k, hi = some (.int k H)) (hM : ∃ k, mx = some (.int k M)) (h1 : L ≤ H) (h2 : H ≤ M) (h3 : M ≤ cap) (w : World) :
    (Instr.sliceBounds b len cap lo hi mx).run P w = .ok (L, H, M) w := by
  obtain ⟨j, rfl⟩ := hH
  obtain ⟨m, rfl⟩ := hM
  cases lo with
  | none => cases hL; simp [Instr.sliceBounds, run_sliceBound' h2, run_sliceBound' h3]
  | some v =>
    obtain ⟨k, rfl⟩ := hL
    simp [Instr.sliceBounds, run_sliceBound' h1, run_sliceBound' h2, run_sliceBound' h3]
theorem mem_slice {t : TypeId} {x : Operand} {lo hi mx : Option Operand} (ho : o.op = .slice t x lo hi mx) :
    x ∈ o.op.operands ∧ (∀ y, lo = some y → y ∈ o.op.operands) ∧ (∀ y, hi = some y → y ∈ o.op.operands) ∧ (∀ y, mx = some y → y ∈ o.op.operands) := by
  rw [ho]
  refine ⟨by simp [Op.operands], fun y hy => ?_, fun y hy => ?_, fun y hy => ?_⟩ <;> subst hy <;> simp [Op.operands]
theorem does_sliceS {T : Tys} (hT : TysOk P T) {t : TypeId} {ti : TyI} (ht : T.get t = some ti) (hsh : ti.sh = .string) {x : Operand} {lo hi : Option Operand} {s : ByteArray} {L H : Nat}
    (ho : o.op = .slice t x lo hi none) (hx : evO e x = some (.string s)) (hL : Bnd e lo 0 L) (hH : Bnd e hi s.size H) (h1 : L ≤ H) (h2 : H ≤ s.size) :
    OpSem P W0 o e [] [] [] (some (.string (s.extract L H))) := .of_run fun ρ h w a hR hO hrd => by
  have hs := (hT t ti ht).2
  rw [hsh] at hs
  obtain ⟨m1, m2, m3, m4⟩ := mem_slice ho
  have e1 := (AF.string s).eq (hO x m1 _ hx)
  have b1 := hL.val (ρ := ρ) (a := a) fun y hy v hv => hO y (m2 y hy) v hv
  have b2 := hH.val (ρ := ρ) (a := a) fun y hy v hv => hO y (m3 y hy) v hv
  refine ⟨_, .string _, ?_⟩
  simp [execOp, ho, e1, Instr.sliceAt, Instr.slice, run_underlying hs, run_bounds b1 b2 h1 h2]
theorem does_sliceN {T : Tys} (hT : TysOk P T) {t : TypeId} {ti : TyI} (ht : T.get t = some ti) {esz eb : Nat} {ea : Bool} {ez : List Value} {et : TypeId} (hsh : ti.sh = .slice esz eb ea ez et) {x : Operand} {lo hi : Option Operand} {L H : Nat}
    (ho : o.op = .slice t x lo hi none) (hx : evO e x = some (.slice none 0 0)) (hL : Bnd e lo 0 L) (hH : Bnd e hi 0 H) (h1 : L ≤ H) (h2 : H ≤ 0) :
    OpSem P W0 o e [] [] [] (some (.slice none 0 0)) := .of_run fun ρ h w a hR hO hrd => by
  have hs := (hT t ti ht).2
  rw [hsh] at hs
  obtain ⟨u1, hI⟩ := hs
  obtain ⟨m1, m2, m3, m4⟩ := mem_slice ho
  have e1 := (AF.sliceN 0 0).eq (hO x m1 _ hx)
  have b1 := hL.val (ρ := ρ) (a := a) fun y hy v hv => hO y (m2 y hy) v hv
  have b2 := hH.val (ρ := ρ) (a := a) fun y hy v hv => hO y (m3 y hy) v hv
  obtain rfl : H = 0 := by omega
  obtain rfl : L = 0 := by omega
  refine ⟨_, .sliceN 0 0, ?_⟩
  simp [execOp, ho, e1, Instr.sliceAt, Instr.slice, run_underlying u1, run_bounds b1 b2 h1 h2, hI.size_run]
theorem does_slice {T : Tys} (hT : TysOk P T) {t : TypeId} {ti : TyI} (ht : T.get t = some ti) {esz eb : Nat} {ea : Bool} {ez : List Value} {et : TypeId} (hsh : ti.sh = .slice esz eb ea ez et) {x : Operand} {lo hi : Option Operand} {i off n c L H : Nat}
    {cs : List Value} {wr sp : Bool} {ty : TypeId} (ho : o.op = .slice t x lo hi none) (hx : evO e x = some (.slice (some ⟨i, off, none⟩) n c)) (hL : Bnd e lo 0 L) (hH : Bnd e hi n H) (h1 : L ≤ H) (h2 : H ≤ c) :
    OpSem P W0 o e [(i, .cells cs esz wr sp ty)] [] [] (some (.slice (some ⟨i, off + L * esz, none⟩) (H - L) (c - L))) := .of_run fun ρ h w a hR hO hrd => by
  have hs := (hT t ti ht).2
  rw [hsh] at hs
  obtain ⟨u1, hI⟩ := hs
  obtain ⟨m1, m2, m3, m4⟩ := mem_slice ho
  have b1 := hL.val (ρ := ρ) (a := a) fun y hy v hv => hO y (m2 y hy) v hv
  have b2 := hH.val (ρ := ρ) (a := a) fun y hy v hv => hO y (m3 y hy) v hv
  have hv := hO x m1 _ hx
  obtain ⟨v', hv'⟩ : ∃ v', a.eval x = v' := ⟨_, rfl⟩
  rw [hv'] at hv
  cases hv with
  | slice0 _ _ l y hl =>
    obtain rfl : H = 0 := by omega
    obtain rfl : L = 0 := by omega
    refine ⟨_, .slice0 i _ l y hl, ?_⟩
    simp [execOp, ho, hv', Instr.sliceAt, Instr.slice, run_underlying u1, run_bounds b1 b2 h1 h2, hI.size_run]
  | slice _ _ _ _ l c' hl g1 g2 g3 g4 =>
    have hsz : esz = l.sz := (rd_blk hR hl (hrd _ (List.mem_singleton.mpr rfl))).1
    have hcc : c ≤ c' := by
      by_cases k : off + c * l.sz = l.n
      · exact (g3 k).1
      · rw [g4 k]; exact Nat.le_refl _
    have hrun := run_bounds (P := P) (b := true) b1 b2 h1 (Nat.le_trans h2 hcc) w
    by_cases hLc : c' = L
    · have hc : c = L := by omega
      have hHL : H = L := by omega
      subst hHL; subst hc; subst hLc
      refine ⟨.slice (some ⟨l.blk, l.off + off, none⟩) 0 0, ?_, ?_⟩
      · rw [Nat.sub_self]; exact .slice0 i _ l _ hl
      · simp [execOp, ho, hv', Instr.sliceAt, Instr.slice, run_underlying u1, hrun, hI.size_run]
    · refine ⟨.slice (some ⟨l.blk, l.off + (off + L * esz), none⟩) (H - L) (c' - L), ?_, ?_⟩
      · subst hsz
        have key : ∀ m, L ≤ m → off + L * l.sz + (m - L) * l.sz = off + m * l.sz := by
          intro m hm
          rw [Nat.sub_mul, Nat.add_assoc, Nat.add_sub_cancel' (Nat.mul_le_mul_right _ hm)]
        have hLc' : L ≤ c := Nat.le_trans h1 h2
        refine .slice i _ _ _ l _ hl (by omega) (by rw [key c hLc']; exact g2) ?_ ?_
        · intro k
          rw [key c hLc'] at k
          obtain ⟨p, q⟩ := g3 k
          exact ⟨by omega, by rw [key c' (by omega)]; exact q⟩
        · intro k
          rw [key c hLc'] at k
          rw [g4 k]
      · simp [execOp, ho, hv', Instr.sliceAt, Instr.slice, run_underlying u1, hrun, hI.size_run, hLc, add_plain, Nat.add_assoc]
/-- The sketch's name of an empty slice without room. -/
def noRoomOff (cs : List Value) : Nat := cs.length + 1
theorem does_slice3 {T : Tys} (hT : TysOk P T) {t : TypeId} {ti : TyI} (ht : T.get t = some ti) {esz eb : Nat} {ea : Bool} {ez : List Value} {et : TypeId} (hsh : ti.sh = .slice esz eb ea ez et) {x z1 z2 : Operand} {lo : Option Operand} {i off n c L H M : Nat}
    {k1 k2 : IntKind} {cs : List Value} {wr sp : Bool} {ty : TypeId} (ho : o.op = .slice t x lo (some z1) (some z2)) (hx : evO e x = some (.slice (some ⟨i, off, none⟩) n c)) (hL : Bnd e lo 0 L) (hH : evO e z1 = some (.int k1 H)) (hM : evO e z2 = some (.int k2 M)) (h1 : L ≤ H) (h2 : H ≤ M) (h3 : M ≤ c) :
    OpSem P W0 o e [(i, .cells cs esz wr sp ty)] [] [] (some (if M = L then .slice (some ⟨i, noRoomOff cs, none⟩) 0 0 else .slice (some ⟨i, off + L * esz, none⟩) (H - L) (M - L))) := .of_run fun ρ h w a hR hO hrd => by
  have hs := (hT t ti ht).2
  rw [hsh] at hs
  obtain ⟨u1, hI⟩ := hs
  obtain ⟨m1, m2, m3, m4⟩ := mem_slice ho
  have b1 := hL.val (ρ := ρ) (a := a) fun y hy v hv => hO y (m2 y hy) v hv
  have b2 := (AF.int k1 H).eq (hO z1 (m3 z1 rfl) _ hH)
  have b3 := (AF.int k2 M).eq (hO z2 (m4 z2 rfl) _ hM)
  have hv := hO x m1 _ hx
  obtain ⟨v', hv'⟩ : ∃ v', a.eval x = v' := ⟨_, rfl⟩
  rw [hv'] at hv
  cases hv with
  | slice0 _ _ l y hl =>
    obtain rfl : M = 0 := by omega
    obtain rfl : H = 0 := by omega
    obtain rfl : L = 0 := by omega
    refine ⟨_, by rw [if_pos rfl]; exact .slice0 i _ l y hl, ?_⟩
    simp [execOp, ho, hv', Instr.sliceAt, Instr.slice, run_underlying u1, run_bounds3 b1 ⟨k1, congrArg some b2⟩ ⟨k2, congrArg some b3⟩ h1 h2 h3, hI.size_run]
  | slice _ _ _ _ l c' hl g1 g2 g3 g4 =>
    have hB := rd_blk hR hl (hrd _ (List.mem_singleton.mpr rfl))
    have hsz : esz = l.sz := hB.1
    have hcc : c ≤ c' := by
      by_cases k : off + c * l.sz = l.n
      · exact (g3 k).1
      · rw [g4 k]; exact Nat.le_refl _
    have hrun := run_bounds3 (P := P) (b := true) (len := n) b1 ⟨k1, congrArg some b2⟩ ⟨k2, congrArg some b3⟩ h1 h2 (Nat.le_trans h3 hcc) w
    by_cases hLc : M = L
    · refine ⟨.slice (some ⟨l.blk, l.off + off, none⟩) 0 0, by rw [if_pos hLc]; exact .slice0 i _ l _ hl, ?_⟩
      have hHL : H = L := by omega
      simp [execOp, ho, hv', Instr.sliceAt, Instr.slice, run_underlying u1, hrun, hI.size_run, hLc, hHL]
    · refine ⟨.slice (some ⟨l.blk, l.off + (off + L * esz), none⟩) (H - L) (M - L), ?_, ?_⟩
      · rw [if_neg hLc]
        subst hsz
        have key : ∀ m, L ≤ m → off + L * l.sz + (m - L) * l.sz = off + m * l.sz := by
          intro m hm
          rw [Nat.sub_mul, Nat.add_assoc, Nat.add_sub_cancel' (Nat.mul_le_mul_right _ hm)]
        have hLM : L ≤ M := Nat.le_trans h1 h2
        have hMn : off + M * l.sz ≤ l.n := Nat.le_trans (Nat.add_le_add_left (Nat.mul_le_mul_right _ h3) _) g2
        refine .slice i _ _ _ l _ hl (by omega) (by rw [key M hLM]; exact hMn) ?_ (fun _ => rfl)
        intro k
        refine ⟨Nat.le_refl _, ?_⟩
        rw [k]
        obtain ⟨q1, q2, q3, q4, q5, q6, _⟩ := hB
        exact q6
      · simp [execOp, ho, hv', Instr.sliceAt, Instr.slice, run_underlying u1, hrun, hI.size_run, hLc, add_plain, Nat.add_assoc]
end
end Go.Den
namespace Go.Den
open Go Go.RowKit
/-! ### lists in blocks that no one writes -/
theorem lst_inv {ρ : Ren} {cs : List Value} {n : Nat} {v' : Value} (h : VRel ρ (LV cs n) v') : (∃ p c', n = 0 ∧ v' = .slice p 0 c') ∨ ∃ arr b off c', ρ.im b = some arr ∧ off + cs.length ≤ arr.size ∧ n ≤ c' ∧ v' = .slice (some ⟨b, off, none⟩) n c' ∧
    ∀ (k : Nat) (u u' : Value), cs[k]? = some u → arr[off + k]? = some u' → VRel ρ u u' := by
  generalize hu : (LV cs n) = u at h
  cases h <;> first
    | (cases hu; done)
    | skip
  case func hf _ _ _ _ => cases hu; exact absurd rfl (hf n)
  case lst n' cs' arr b off c' h1 h2 h3 h4 =>
    injection hu with a1 a2 a3
    injection a1 with a1
    subst a1
    have hcs : cs = cs'.toList := by rw [← a2]
    subst hcs
    exact .inr ⟨arr, b, off, c', h1, by simpa using h2, h3, rfl, fun k u u' p q => h4 k u u' (by simpa using p) q⟩
  case lst0 cs' p c' =>
    injection hu with a1 a2 a3
    injection a1 with a1
    exact .inl ⟨p, c', a1, rfl⟩
theorem lptr_inv {ρ : Ren} {cs : List Value} {i : Nat} {v' : Value} (h : VRel ρ (LP cs i) v') : ∃ arr b a, ρ.im b = some arr ∧ a + cs.length ≤ arr.size ∧ v' = .pointer (some ⟨b, a + i, none⟩) ∧
    ∀ (k : Nat) (u u' : Value), cs[k]? = some u → arr[a + k]? = some u' → VRel ρ u u' := by
  generalize hu : (LP cs i) = u at h
  cases h <;> first
    | (cases hu; done)
    | skip
  case func hf _ _ _ _ => cases hu; exact absurd rfl (hf i)
  case lptr n' cs' arr b a h1 h2 h4 =>
    injection hu with a1 a2 a3
    injection a1 with a1
    subst a1
    have hcs : cs = cs'.toList := by rw [← a2]
    subst hcs
    exact ⟨arr, b, a, h1, by simpa using h2, rfl, fun k u u' p q => h4 k u u' (by simpa using p) q⟩
theorem VRel.lstL {ρ : Ren} {cs : List Value} {n : Nat} {arr : Array Value} {b off c' : Nat} (h1 : ρ.im b = some arr) (h2 : off + cs.length ≤ arr.size) (h3 : n ≤ c') (h4 : ∀ (k : Nat) (u u' : Value), cs[k]? = some u → arr[off + k]? = some u' → VRel ρ u u') :
    VRel ρ (LV cs n) (.slice (some ⟨b, off, none⟩) n c') := .lst n cs.toArray arr b off c' h1 (by simpa using h2) h3 fun k u u' p q => h4 k u u' (by simpa using p) q
theorem VRel.lptrL {ρ : Ren} {cs : List Value} {i : Nat} {arr : Array Value} {b a : Nat} (h1 : ρ.im b = some arr) (h2 : a + cs.length ≤ arr.size) (h4 : ∀ (k : Nat) (u u' : Value), cs[k]? = some u → arr[a + k]? = some u' → VRel ρ u u') :
    VRel ρ (LP cs i) (.pointer (some ⟨b, a + i, none⟩)) := .lptr i cs.toArray arr b a h1 (by simpa using h2) fun k u u' p q => h4 k u u' (by simpa using p) q
theorem cells_partL {ρ : Ren} {W0 : World} {h : AHeap} {w : World} (hR : Rel W0 ρ h w) {cs : List Value} {arr : Array Value} {b a : Nat} (h1 : ρ.im b = some arr) (h2 : a + cs.length ≤ arr.size) (h4 : ∀ (k : Nat) (u u' : Value), cs[k]? = some u → arr[a + k]? = some u' → VRel ρ u u')
    (i n : Nat) (hn : i + n ≤ cs.length) : ∃ ds : List Value, ds.length = n ∧ (∀ (j : Nat) (v : Value), ds[j]? = some v → w.cell? ⟨b, a + i + j, none⟩ = some v) ∧
      (∀ (j : Nat) (u u' : Value), ((cs.drop i).take n)[j]? = some u → ds[j]? = some u' → VRel ρ u u') := by
  obtain ⟨t, fr, hb⟩ := hR.imm b arr h1
  refine ⟨(arr.toList.drop (a + i)).take n, ?_, ?_, ?_⟩
  · simp only [List.length_take, List.length_drop, Array.length_toList]; omega
  · intro j v hj
    rw [cell_of hb]
    rw [List.getElem?_take] at hj
    split at hj
    · rw [List.getElem?_drop, Array.getElem?_toList] at hj; exact hj
    · cases hj
  · intro j u u' hu hu'
    rw [List.getElem?_take] at hu hu'
    split at hu
    · rename_i hjn
      rw [if_pos hjn] at hu'
      rw [List.getElem?_drop] at hu hu'
      rw [Array.getElem?_toList, Nat.add_assoc] at hu'
      exact h4 _ u u' hu hu'
    · cases hu
end Go.Den
namespace Go.Den
open Go Go.RowKit
section
variable {P : Program} {W0 : World} {o : Oper} {e : Env}

/-- Where what is appended or copied comes from: cells, of so many elements. -/
inductive Src (esz : Nat) : Value → List (Nat × ABlk) → Nat → List Value → Prop
  | nil : Src esz (.slice none 0 0) [] 0 []
  | empty (i off c : Nat) : Src esz (.slice (some ⟨i, off, none⟩) 0 c) [] 0 []
  | slice (i off n c : Nat) (cs : List Value) (wr sp : Bool) (ty : TypeId) : 0 < n → off + n * esz ≤ cs.length → Src esz (.slice (some ⟨i, off, none⟩) n c) [(i, .cells cs esz wr sp ty)] n ((cs.drop off).take (n * esz))
  | lst (n : Nat) (cs : List Value) : cs.length = n * esz → Src esz (LV cs n) [] n cs
  | string (s : ByteArray) : esz = 1 → Src esz (.string s) [] s.size (s.data.toList.map fun b => .int .u8 b.toNat)
theorem take_size {α : Type} (l : List α) : l.take l.length = l := List.take_length
theorem Src.run {esz : Nat} {x : Value} {rd : List (Nat × ABlk)} {n : Nat} {news : List Value} (hS : Src esz x rd n news) {ρ : Ren} {h : AHeap} {w : World} (hR : Rel W0 ρ h w) {x' : Value} (hx : VRel ρ x x') (hrd : ∀ p ∈ rd, h[p.1]? = some p.2) :
    ∃ ds : List Value, LRel ρ news ds ∧ news.length = n * esz ∧ Builtin.lenOf x' = pure n ∧ ∀ w2 : World, w2.heap = w.heap → (Builtin.firstCells esz n x').run P w2 = .ok ds.toArray w2 := by
  cases hS with
  | nil => cases hx; exact ⟨[], .nil ρ, by simp, rfl, fun w2 _ => rfl⟩
  | empty i off c => cases hx <;> exact ⟨[], .nil ρ, by simp, rfl, fun w2 _ => by simp [Builtin.firstCells, loadCells, loadCellsFrom]⟩
  | slice i off _ c cs wr sp ty hn hl =>
    obtain ⟨l, c', hl', rfl, _⟩ := slice_inv hx hn
    obtain ⟨ds, d1, d2, d3⟩ := cells_part (rd_blk hR hl' (hrd _ (List.mem_singleton.mpr rfl))) off (n * esz) hl
    refine ⟨ds, ⟨by simp only [List.length_take, List.length_drop]; omega, d3⟩, by simp only [List.length_take, List.length_drop]; omega, rfl, fun w2 hw => ?_⟩
    have hr := run_loadCells_list (P := P) w2 ⟨l.blk, l.off + off, none⟩ ds (fun j v hj => by
      rw [add_plain]
      have := d2 j v hj
      unfold World.cell? at this ⊢
      rw [hw]; exact this)
    rw [d1] at hr
    simp [Builtin.firstCells, hr]
  | lst n cs hl =>
    rcases lst_inv hx with ⟨p, c', hn, rfl⟩ | ⟨arr, b, off, c', q1, q2, q3, rfl, q4⟩
    · subst hn
      have : news = [] := List.eq_nil_of_length_eq_zero (by omega)
      subst this
      refine ⟨[], .nil ρ, by simp, rfl, fun w2 _ => ?_⟩
      cases p <;> simp [Builtin.firstCells, loadCells, loadCellsFrom]
    · obtain ⟨ds, d1, d2, d3⟩ := cells_partL hR q1 q2 q4 0 (n * esz) (by omega)
      refine ⟨ds, ⟨by omega, fun j u u' p q => d3 j u u' (by rw [List.drop_zero, List.take_of_length_le (by omega)]; exact p) q⟩, hl, rfl, fun w2 hw => ?_⟩
      have hr := run_loadCells_list (P := P) w2 ⟨b, off, none⟩ ds (fun j v hj => by
        rw [add_plain]
        have := d2 j v hj
        rw [Nat.add_zero] at this
        unfold World.cell? at this ⊢
        rw [hw]; exact this)
      rw [d1] at hr
      simp [Builtin.firstCells, hr]
  | string s he =>
    subst he
    obtain rfl := (AF.string s).eq hx
    refine ⟨_, .refl ?_, by simp, rfl, fun w2 _ => ?_⟩
    · rw [List.all_eq_true]; intro v hv; obtain ⟨b, _, rfl⟩ := List.mem_map.mp hv; rfl
    · have : s.extract 0 s.size = s := by simp
      simp only [Builtin.firstCells, this, Sem.run_pure]
      congr 1
      apply Array.ext'; simp
/-- append that must grow. -/
theorem run_grow {t tx ty et : TypeId} {info : TypeInfo} {z : Value} {d : TypeDesc} (ht : P.underlying t = some (.slice et)) (hi : P.info? et = some info) (hz : info.zero = some z) (hd : P.underlying tx = some d) (hn : ∀ k, d ≠ .int k)
    {base : Option Addr} {sLen sCap n : Nat} {x : Value} {olds news : List Value} {w : World} (hx : Builtin.lenOf x = pure n)
    (ho : (Builtin.firstCells info.size sLen (.slice base sLen sCap)).run P w.drew = .ok olds.toArray w.drew)
    (hnw : (Builtin.firstCells info.size n x).run P w.drew = .ok news.toArray w.drew) (hg : sCap < sLen + n) (hb : (sLen + n) * info.bytes ≤ 140737488355328) (h63 : sLen + n ≤ 9223372036854775807) :
    ∃ cap : Nat, sLen + n ≤ cap ∧ (Builtin.append_ #[t, tx] ty #[.slice base sLen sCap, x]).run P w =
      .ok (.slice (some ⟨w.heap.size, 0, none⟩) (sLen + n) cap) (w.drew.alloc (.cells (olds ++ news ++ (Builtin.zeroCells z.cells (cap - (sLen + n))).toList).toArray et)) := by
  refine ⟨grownCap w (sLen + n) sCap et, ?_, ?_⟩
  · show sLen + n ≤ sLen + n + _
    omega
  have hnc : ¬ (sLen + n ≤ sCap) := by omega
  have h63' : ¬ (9223372036854775807 < ((sLen : Int) + (n : Int))) := by omega
  have h48' : ¬ (281474976710656 < Builtin.nextslicecap (sLen + n) sCap * info.bytes) := by have := growslice_fits hg hb; omega
  have hzs : ((do pure ((← underlying tx) matches .int _) : Sem Bool)).run P w = .ok false w := by
    simp only [Sem.run_bind, run_underlying hd, Result.andThen_ok]
    cases d <;> first | rfl | exact absurd rfl (hn _)
  have hzs' : ∀ w : World, (underlying tx).run P w = .ok d w := fun w => run_underlying hd w
  have hdm : (match d with | .int _ => true | _ => false) = false := by cases d <;> first | rfl | exact absurd rfl (hn _)
  simp [Builtin.append_, run_underlying ht, run_underlying hd, sizeOf, typeInfo, zeroValue, hi, hz, hx, hnc, h63', h48', Question.forced, hnw, ho, newRow, grownCap, hdm]
  congr 2
  apply Array.ext'
  simp
/-- append that fits. -/
theorem run_fits {t tx ty et : TypeId} {info : TypeInfo} {d : TypeDesc} (ht : P.underlying t = some (.slice et)) (hi : P.info? et = some info) (hd : P.underlying tx = some d) (hn : ∀ k, d ≠ .int k)
    {a : Addr} {sLen sCap n : Nat} {x : Value} {news : List Value} {w w' : World} (hx : Builtin.lenOf x = pure n)
    (hnw : (Builtin.firstCells info.size n x).run P w = .ok news.toArray w) (hg : sLen + n ≤ sCap) (hs : (storeCells (a.add (sLen * info.size)) news 0).run P w = .ok () w') :
    (Builtin.append_ #[t, tx] ty #[.slice (some a) sLen sCap, x]).run P w = .ok (.slice (some a) (sLen + n) sCap) w' := by
  have hdm : (match d with | .int _ => true | _ => false) = false := by cases d <;> first | rfl | exact absurd rfl (hn _)
  simp [Builtin.append_, run_underlying ht, run_underlying hd, sizeOf, typeInfo, hi, hx, hnw, hg, hdm, hs]

theorem mem_call {c : Call} (ho : o.op = .call c) {x : Operand} (hx : x ∈ c.args) : x ∈ o.op.operands := by
  rw [ho]; simp only [Op.operands, Call.operands]; exact Array.mem_append.mpr (.inr hx)
theorem exec_builtin {b : Builtin} {xs : Array Operand} {ts : Array TypeId} (ho : o.op = .call ⟨.builtin b, xs, ts⟩) (a : Act) :
    ∃ k : Array Bool, execOp a.eval o = (builtin b ts o.type k (xs.map a.eval) : Sem Next) := by
  refine ⟨xs.map fun | .const _ => true | _ => false, ?_⟩
  simp [execOp, ho, resolve, invoke]
  rfl
/-- In the new block lies what the row needs, and room behind it. -/
theorem brel_grown {ρ : Ren} {w : World} {us ds rest : List Value} {t : TypeId} {sz cap n : Nat} (hsz : 0 < sz) (hL : LRel ρ us ds) (hc : us.length + rest.length = cap * sz) :
    BRel ρ ⟨w.heap.size, 0, us.length, cap * sz, sz, true⟩ (w.alloc (.cells (ds ++ rest).toArray t)) (.cells us sz true true t) := by
  refine ⟨rfl, hsz, rfl, (fun h => by cases h), rfl, by simp only []; omega, (ds ++ rest).toArray, t, (0, 0), rfl, ?_, ?_, ?_, ?_, fun z => by cases z⟩
  · show (w.heap.push _)[w.heap.size]? = _; simp
  · simp only [List.size_toArray, List.length_append]; have := hL.1; omega
  · intro k v hk
    have hlt : k < ds.length := by
      have h1 := (List.getElem?_eq_some_iff.mp hk).1
      have := hL.1; omega
    refine ⟨ds[k], ?_, hL.2 k v ds[k] hk (by simp [hlt])⟩
    simp [List.getElem?_append_left, hlt]
  · intro _ k _ _
    simp
theorem Rel.drew {ρ : Ren} {h : AHeap} {w : World} (hR : Rel W0 ρ h w) : Rel W0 ρ h w.drew := rel_drawn hR _
theorem size_drew (w : World) : w.drew.heap.size = w.heap.size := rfl
theorem zeroCells_size (z : Array Value) (n : Nat) : (Builtin.zeroCells z n).toList.length = n * z.size := by simp [Builtin.zeroCells]
end
end Go.Den
namespace Go.Den
open Go Go.RowKit
section
variable {P : Program} {W0 : World} {o : Oper} {e : Env}

/-- The types of an append: the slice's, its elements', what is appended. -/
structure AppT (P : Program) (t tx : TypeId) (esz eb : Nat) (et : TypeId) : Prop where
  ex : ∃ (info : TypeInfo) (z : Value) (d : TypeDesc), P.underlying t = some (.slice et) ∧ P.info? et = some info ∧ info.size = esz ∧ info.bytes = eb ∧ info.zero = some z ∧ z.cells.size = esz ∧
    P.underlying tx = some d ∧ ∀ k, d ≠ .int k
theorem AppT.of {T : Tys} (hT : TysOk P T) {t tx : TypeId} {ti xi : TyI} (ht : T.get t = some ti) (hx : T.get tx = some xi) {esz eb : Nat} {ea : Bool} {ez : List Value} {et : TypeId} (hsh : ti.sh = .slice esz eb ea ez et)
    (hxs : (match xi.sh with | .slice .. | .string => true | _ => false) = true) : AppT P t tx esz eb et := by
  have hs := (hT t ti ht).2
  rw [hsh] at hs
  obtain ⟨u1, hI⟩ := hs
  obtain ⟨info, d, zv, h1, h2, h3, h4, h5, h6, h7, h8, h9, h10, h11⟩ := hI.ex
  have hs' := (hT tx xi hx).2
  have hz : zv.cells.size = esz := by rw [← Array.length_toList, h5, h11]
  cases hq : xi.sh <;> rw [hq] at hs' hxs <;> first
    | (cases hxs; done)
    | exact ⟨info, zv, _, u1, h1, h2, h3, h4, hz, hs', by simp⟩
    | (obtain ⟨hs', _⟩ := hs'; exact ⟨info, zv, _, u1, h1, h2, h3, h4, hz, hs', by simp⟩)
theorem map2 {α β : Type} (f : α → β) (x y : α) : (#[x, y] : Array α).map f = #[f x, f y] := by simp
theorem exec_append {t tx : TypeId} {x y : Operand} (ho : o.op = .call ⟨.builtin .append, #[x, y], #[t, tx]⟩) {a : Act} {w w' : World} {v : Value}
    (h : (Builtin.append_ #[t, tx] o.type #[a.eval x, a.eval y]).run P w = .ok v w') : (execOp a.eval o).run P w = .ok (.value v) w' := by
  obtain ⟨k, hk⟩ := exec_builtin ho a
  rw [hk, map2]
  simp [builtin, h]
theorem opnds2 {t tx : TypeId} {x y : Operand} {b : Builtin} (ho : o.op = .call ⟨.builtin b, #[x, y], #[t, tx]⟩) : x ∈ o.op.operands ∧ y ∈ o.op.operands :=
  ⟨mem_call ho (by simp), mem_call ho (by simp)⟩

/-- Nothing is appended. -/
theorem does_append0 {t tx et : TypeId} {esz eb : Nat} (hA : AppT P t tx esz eb et) {x y : Operand} {p : Option Addr} {n c : Nat} {u : Value} {rd : List (Nat × ABlk)} {news : List Value} (ho : o.op = .call ⟨.builtin .append, #[x, y], #[t, tx]⟩)
    (hx : evO e x = some (.slice p n c)) (hp : p = none → n = 0 ∧ c = 0) (hy : evO e y = some u) (hS : Src esz u rd 0 news) : OpSem P W0 o e rd [] [] (some (.slice p n c)) := .of_run fun ρ h w a hR hO hrd => by
  obtain ⟨info, z, d, u1, u2, u3, u4, u5, u6, u7, u8⟩ := hA.ex
  obtain ⟨m1, m2⟩ := opnds2 ho
  obtain ⟨ds, d1, d2, d3, d4⟩ := hS.run (P := P) hR (hO y m2 _ hy) hrd
  have hds : ds = [] := List.eq_nil_of_length_eq_zero (by rw [← d1.1, d2]; simp)
  subst hds
  have hv := hO x m1 _ hx
  refine ⟨_, hv, ?_⟩
  obtain ⟨v', hv'⟩ : ∃ v', a.eval x = v' := ⟨_, rfl⟩
  rw [hv'] at hv ⊢
  have hfc := d4 w rfl
  rw [← u3] at hfc
  have fit : ∀ (b : Addr) (n c' : Nat), n ≤ c' → v' = .slice (some b) n c' → (execOp a.eval o).run P w = .ok (.value v') w := by
    intro b n c' hn hb
    refine exec_append ho ?_
    rw [hv', hb]
    exact run_fits u1 u2 u7 u8 d3 hfc (by omega) (by simp [storeCells])
  cases hv with
  | sliceN _ _ =>
    obtain ⟨rfl, rfl⟩ := hp rfl
    refine exec_append ho ?_
    rw [hv']
    have hdm : (match d with | .int _ => true | _ => false) = false := by cases d <;> first | rfl | exact absurd rfl (u8 _)
    simp [Builtin.append_, run_underlying u1, run_underlying u7, sizeOf, typeInfo, u2, d3, hdm, hfc]
  | slice i off _ _ l c' hl g1 g2 g3 g4 =>
    refine fit _ n c' ?_ rfl
    by_cases k : off + c * l.sz = l.n
    · have := (g3 k).1; omega
    · rw [g4 k]; exact g1
  | slice0 i off l y' hl => exact fit _ 0 0 (Nat.le_refl _) rfl
/-- What is appended has room, as the sketch knows. -/
theorem does_appendFit {t tx et : TypeId} {esz eb : Nat} (hA : AppT P t tx esz eb et) {x y : Operand} {i off n c k : Nat} {u : Value} {rd : List (Nat × ABlk)} {news cs : List Value} {sp : Bool} {ty : TypeId} (ho : o.op = .call ⟨.builtin .append, #[x, y], #[t, tx]⟩)
    (hx : evO e x = some (.slice (some ⟨i, off, none⟩) n c)) (hy : evO e y = some u) (hS : Src esz u rd k news) (hk : 0 < k) (hc : n + k ≤ c) (hcs : off + c * esz ≤ cs.length) (h1 : news.all (·.oneCell') = true) :
    OpSem P W0 o e ((i, .cells cs esz true sp ty) :: rd) [(i, .cells (putL cs (off + n * esz) news) esz true sp ty)] [] (some (.slice (some ⟨i, off, none⟩) (n + k) c)) := by
  intro ρ h w a hR hO hrd _ next Q hnext
  obtain ⟨info, z, d, u1, u2, u3, u4, u5, u6, u7, u8⟩ := hA.ex
  obtain ⟨m1, m2⟩ := opnds2 ho
  obtain ⟨ds, d1, d2, d3, d4⟩ := hS.run (P := P) hR (hO y m2 _ hy) (fun p hp => hrd p (List.mem_cons_of_mem _ hp))
  have hv := hO x m1 _ hx
  obtain ⟨v', hv'⟩ : ∃ v', a.eval x = v' := ⟨_, rfl⟩
  rw [hv'] at hv
  have hfc := d4 w rfl
  rw [← u3] at hfc
  have hb : h[i]? = some (.cells cs esz true sp ty) := hrd _ (List.mem_cons_self ..)
  cases hv with
  | slice0 _ _ l y' hl => omega
  | slice _ _ _ _ l c' hl g1 g2 g3 g4 =>
    have hcc : c ≤ c' := by
      by_cases k : off + c * l.sz = l.n
      · exact (g3 k).1
      · rw [g4 k]; exact Nat.le_refl _
    have hle : off + n * esz + news.length ≤ cs.length := by
      rw [d2, Nat.add_assoc, ← Nat.add_mul]
      exact Nat.le_trans (Nat.add_le_add_left (Nat.mul_le_mul_right _ hc) _) hcs
    obtain ⟨w', hrun, hE, hR'⟩ := store_blk (P := P) hR hl hb hle h1 d1.1 d1.2
    have hex : (execOp a.eval o).run P w = .ok (.value (.slice (some ⟨l.blk, l.off + off, none⟩) (n + k) c')) w' := by
      refine exec_append ho ?_
      rw [hv']
      refine run_fits u1 u2 u7 u8 d3 hfc (by omega) ?_
      rw [add_plain, u3, Nat.add_assoc]
      exact hrun
    unfold Oper.wp
    rw [hex]
    exact hnext _ ρ w' (fun v hv => by cases hv; exact .slice i off _ c l c' hl (by omega) g2 g3 g4) hE hR'
/-- The machine's side of an append that makes a new row. -/
theorem grow_new {t tx et : TypeId} {esz eb : Nat} (hA : AppT P t tx esz eb et) (hsz : 0 < esz) {ρ : Ren} {h : AHeap} {w : World} (hR : Rel W0 ρ h w) {base : Option Addr} {sLen sCap k nid : Nat} {x' : Value} {olds news os ds : List Value} {ty : TypeId}
    (hlx : Builtin.lenOf x' = pure k) (hos : LRel ρ olds os) (hds : LRel ρ news ds) (ho : olds.length = sLen * esz) (hn : news.length = k * esz)
    (f1 : (Builtin.firstCells esz sLen (.slice base sLen sCap)).run P w.drew = .ok os.toArray w.drew) (f2 : (Builtin.firstCells esz k x').run P w.drew = .ok ds.toArray w.drew)
    (hg : sCap < sLen + k) (hb : (sLen + k) * eb ≤ 140737488355328) (h63 : sLen + k ≤ 9223372036854775807) (hf : h[nid]? = some .free) :
    ∃ (v' : Value) (ρ' : Ren) (w' : World), (Builtin.append_ #[t, tx] ty #[.slice base sLen sCap, x']).run P w = .ok v' w' ∧ Ext ρ w ρ' w' ∧ Rel W0 ρ' (h.set nid (.cells (olds ++ news) esz true true et)) w' ∧
      VRel ρ' (.slice (some ⟨nid, 0, none⟩) (sLen + k) (sLen + k)) v' := by
  obtain ⟨info, z, d, u1, u2, u3, u4, u5, u6, u7, u8⟩ := hA.ex
  rw [← u3] at f1 f2
  obtain ⟨cap, hcap, hrun⟩ := run_grow (ty := ty) u1 u2 u5 u7 u8 hlx f1 f2 hg (by rw [u4]; exact hb) h63
  have hlen : (olds ++ news).length = (sLen + k) * esz := by rw [List.length_append, ho, hn, Nat.add_mul]
  have hall := rel_alloc hR.drew hf (.cells (os ++ ds ++ (Builtin.zeroCells z.cells (cap - (sLen + k))).toList).toArray et) (.cells (olds ++ news) esz true true et)
    ⟨w.heap.size, 0, (olds ++ news).length, cap * esz, esz, true⟩ rfl rfl (fun ρ' s => by
      have := brel_grown (ρ := ρ') (w := w.drew) (t := et) (cap := cap) (n := 0) hsz ((hos.app hds).mono s) (rest := (Builtin.zeroCells z.cells (cap - (sLen + k))).toList) (by
        rw [hlen, zeroCells_size, u6, ← Nat.add_mul]; congr 1; omega)
      exact this)
  refine ⟨_, _, _, hrun, (ext_drawn ρ w _).trans hall.2, hall.1, ?_⟩
  have hV := VRel.slice (ρ := upd ρ nid ⟨w.heap.size, 0, (olds ++ news).length, cap * esz, esz, true⟩) nid 0 (sLen + k) (sLen + k) _ cap (upd_same _ _ _) (Nat.le_refl _) (by simp only []; rw [hlen]; omega)
    (fun _ => ⟨hcap, by simp⟩) (fun hne => absurd (by simp only []; rw [hlen]; omega) hne)
  simpa using hV
/-- To nothing. -/
theorem does_appendNil {t tx et : TypeId} {esz eb : Nat} (hA : AppT P t tx esz eb et) (hsz : 0 < esz) {x y : Operand} {k nid : Nat} {u : Value} {rd : List (Nat × ABlk)} {news : List Value} (ho : o.op = .call ⟨.builtin .append, #[x, y], #[t, tx]⟩)
    (hx : evO e x = some (.slice none 0 0)) (hy : evO e y = some u) (hS : Src esz u rd k news) (hk : 0 < k) (hb : k * eb ≤ 140737488355328) (h63 : k ≤ 9223372036854775807) :
    OpSem P W0 o e rd [] [(nid, .cells news esz true true et)] (some (.slice (some ⟨nid, 0, none⟩) k k)) := by
  intro ρ h w a hR hO hrd hal next Q hnext
  obtain ⟨m1, m2⟩ := opnds2 ho
  obtain ⟨ds, d1, d2, d3, d4⟩ := hS.run (P := P) hR (hO y m2 _ hy) hrd
  have hv := (AF.sliceN 0 0).eq (hO x m1 _ hx)
  obtain ⟨v', ρ', w', r1, r2, r3, r4⟩ := grow_new (ty := o.type) hA hsz hR d3 (.nil ρ) d1 (by simp) d2 (by simp [Builtin.firstCells]) (d4 w.drew rfl) (base := none) (sLen := 0) (sCap := 0) (by omega) (by simpa using hb) (by omega) (hal _ (List.mem_singleton.mpr rfl))
  have hex : (execOp a.eval o).run P w = .ok (.value v') w' := exec_append ho (by rw [hv]; exact r1)
  unfold Oper.wp
  rw [hex]
  rw [Nat.zero_add] at r4
  exact hnext v' ρ' w' (fun v hv => by cases hv; exact r4) r2 r3
/-- The room is used up, and the sketch knows it: a new row; the elder one stays. -/
theorem does_appendNew {t tx et : TypeId} {esz eb : Nat} (hA : AppT P t tx esz eb et) {x y : Operand} {i off n c k nid : Nat} {u : Value} {rd : List (Nat × ABlk)} {news cs : List Value} {wr sp : Bool} {ty : TypeId} (ho : o.op = .call ⟨.builtin .append, #[x, y], #[t, tx]⟩)
    (hx : evO e x = some (.slice (some ⟨i, off, none⟩) n c)) (hy : evO e y = some u) (hS : Src esz u rd k news) (hk : c < n + k) (hex : sp = false ∨ off + c * esz ≠ cs.length) (hcs : n = 0 ∨ off + n * esz ≤ cs.length)
    (hb : (n + k) * eb ≤ 140737488355328) (h63 : n + k ≤ 9223372036854775807) :
    OpSem P W0 o e ((i, .cells cs esz wr sp ty) :: rd) [] [(nid, .cells ((cs.drop off).take (n * esz) ++ news) esz true true et)] (some (.slice (some ⟨nid, 0, none⟩) (n + k) (n + k))) := by
  intro ρ h w a hR hO hrd hal next Q hnext
  obtain ⟨m1, m2⟩ := opnds2 ho
  obtain ⟨ds, d1, d2, d3, d4⟩ := hS.run (P := P) hR (hO y m2 _ hy) (fun p hp => hrd p (List.mem_cons_of_mem _ hp))
  have hv := hO x m1 _ hx
  obtain ⟨v0, hv0⟩ : ∃ v', a.eval x = v' := ⟨_, rfl⟩
  rw [hv0] at hv
  have hblk : h[i]? = some (.cells cs esz wr sp ty) := hrd _ (List.mem_cons_self ..)
  -- what of the elder row is read
  have hO' : ∃ os : List Value, LRel ρ ((cs.drop off).take (n * esz)) os ∧ ((cs.drop off).take (n * esz)).length = n * esz ∧ (Builtin.firstCells esz n v0).run P w.drew = .ok os.toArray w.drew := by
    rcases Nat.eq_zero_or_pos n with rfl | hn
    · obtain ⟨os, o1, o2, o3, o4⟩ := (Src.empty (esz := esz) i off c).run (P := P) hR hv (by intro p hp; cases hp)
      exact ⟨os, by simpa using o1, by simp, o4 w.drew rfl⟩
    · obtain ⟨os, o1, o2, o3, o4⟩ := (Src.slice (esz := esz) i off n c cs wr sp ty hn (hcs.resolve_left (by omega))).run (P := P) hR hv (by intro p hp; rw [List.mem_singleton.mp hp]; exact hblk)
      exact ⟨os, o1, o2, o4 w.drew rfl⟩
  obtain ⟨os, o1, o2, o4⟩ := hO'
  have hsz : 0 < esz := by
    cases hv with
    | slice0 _ _ l y' hl => exact (rd_blk hR hl hblk).2.1
    | slice _ _ _ _ l c' hl g1 g2 g3 g4 => exact (rd_blk hR hl hblk).2.1
  have hcap : ∃ p c', v0 = .slice p n c' ∧ c' = c := by
    cases hv with
    | slice0 _ _ l y' hl => exact ⟨_, _, rfl, rfl⟩
    | slice _ _ _ _ l c' hl g1 g2 g3 g4 =>
      refine ⟨_, _, rfl, ?_⟩
      obtain ⟨b1, b2, b3, b4, b5, b6, _⟩ := rd_blk hR hl hblk
      by_cases q : off + c * l.sz = l.n
      · rcases hex with hsp | hne
        · obtain ⟨p1, p2⟩ := g3 q
          have := b4 hsp
          rw [this, ← q] at p2
          have h3 : c' * l.sz ≤ c * l.sz := by omega
          have h4 := Nat.le_of_mul_le_mul_right h3 (by rw [← b1]; exact b2)
          omega
        · rw [b1, b5] at hne; exact absurd q hne
      · exact g4 q
  obtain ⟨p, c', rfl, rfl⟩ := hcap
  obtain ⟨v', ρ', w', r1, r2, r3, r4⟩ := grow_new (ty := o.type) hA hsz hR d3 o1 d1 o2 d2 o4 (d4 w.drew rfl) hk hb h63 (hal _ (List.mem_singleton.mpr rfl))
  have hex : (execOp a.eval o).run P w = .ok (.value v') w' := exec_append ho (by rw [hv0]; exact r1)
  unfold Oper.wp
  rw [hex]
  exact hnext v' ρ' w' (fun v hv => by cases hv; exact r4) r2 r3

/-- A row goes over into another of the sketch, in the machine's same block. -/
theorem rel_move {ρ : Ren} {h : AHeap} {w : World} (hR : Rel W0 ρ h w) {i nid : Nat} {l l' : Loc} {b0 b : ABlk} (hi : ρ i = some l) (hb0 : h[i]? = some b0) (hl0 : b0.live = true) (hf : h[nid]? = some .free)
    (hw : l.wr = true) (hw' : l'.wr = true) (hblk : l'.blk = l.blk) (o : Obj) (hb : ∀ ρ' : Ren, Sub ρ ρ' → BRel ρ' l' (setObjW w l.blk o) b) :
    Rel W0 (upd ρ nid l') ((h.set i .dead).set nid b) (setObjW w l.blk o) ∧ Ext ρ w (upd ρ nid l') (setObjW w l.blk o) := by
  have hn := hR.none_of_free hf
  have hs : Sub ρ (upd ρ nid l') := sub_upd hn
  have hne : i ≠ nid := fun e => by subst e; rw [hi] at hn; cases hn
  have hlt : i < h.length := hR.dom i l hi
  have hnl : nid < h.length := by
    rcases Nat.lt_or_ge nid h.length with k | k
    · exact k
    · rw [List.getElem?_eq_none k] at hf; cases hf
  have hold : ∀ k, k ≠ l.blk → (setObjW w l.blk o).heap[k]? = w.heap[k]? := fun k hk => by simp [setObjW, Ne.symm hk]
  have hsz : (setObjW w l.blk o).heap.size = w.heap.size := by simp [setObjW]
  have gn : ((h.set i .dead).set nid b)[nid]? = some b := List.getElem?_set_self (by rw [List.length_set]; exact hnl)
  have gi : ((h.set i .dead).set nid b)[i]? = some .dead := by rw [List.getElem?_set_ne (Ne.symm hne), List.getElem?_set_self hlt]
  have go : ∀ j, j ≠ i → j ≠ nid → ((h.set i .dead).set nid b)[j]? = h[j]? := fun j h1 h2 => by rw [List.getElem?_set_ne (Ne.symm h2), List.getElem?_set_ne (Ne.symm h1)]
  refine ⟨⟨?_, ?_, ?_, ?_, ?_, ?_, ?_, ?_, ?_⟩, ⟨hs, ?_, by omega, ?_, rfl, rfl, rfl, fun _ _ z => .inl z⟩⟩
  · intro j m c hj hc
    by_cases e : j = nid
    · subst e
      rw [upd_same] at hj; cases hj
      rw [gn] at hc; cases hc
      exact hb _ hs
    · rw [upd_ne e] at hj
      by_cases e' : j = i
      · subst e'; rw [gi] at hc; cases hc; trivial
      · rw [go j e' e] at hc
        have hB := hR.blk j m c hj hc
        by_cases hcl : c.live = true
        · exact hB.mono hs (hold _ (Ne.symm (hR.sep i j l m b0 c hi hj (Ne.symm e') hb0 hl0 hc hcl hw)))
        · cases c with
          | free => exact hB.elim
          | dead => trivial
          | _ => exact absurd rfl hcl
  · intro j m hj
    simp only [List.length_set]
    by_cases e : j = nid
    · subst e; exact hnl
    · rw [upd_ne e] at hj; exact hR.dom j m hj
  · intro j k m n c d hj hk hjk hc hcl hd hdl hmw
    have ji : j ≠ i := fun e => by subst e; rw [gi] at hc; cases hc; cases hcl
    have ki : k ≠ i := fun e => by subst e; rw [gi] at hd; cases hd; cases hdl
    by_cases e : j = nid
    · subst e
      rw [upd_same] at hj; cases hj
      rw [upd_ne (Ne.symm hjk)] at hk
      rw [go k ki (Ne.symm hjk)] at hd
      rw [hblk]
      exact hR.sep i k l n b0 d hi hk (Ne.symm ki) hb0 hl0 hd hdl hw
    · rw [upd_ne e] at hj
      rw [go j ji e] at hc
      by_cases e' : k = nid
      · subst e'
        rw [upd_same] at hk; cases hk
        rw [hblk]
        exact hR.sep j i m l c b0 hj hi ji hc hcl hb0 hl0 hmw
      · rw [upd_ne e'] at hk
        rw [go k ki e'] at hd
        exact hR.sep j k m n c d hj hk hjk hc hcl hd hdl hmw
  · have hge := hR.high i l hi hw
    exact hR.low.trans ⟨rfl, rfl, rfl, by omega, fun k hk => hold k (by omega)⟩
  · intro j m hj hmw
    by_cases e : j = nid
    · subst e
      rw [upd_same] at hj; cases hj
      rw [hblk]; exact hR.high i l hi hw
    · rw [upd_ne e] at hj; exact hR.high j m hj hmw
  · intro j m hj
    rw [hsz]
    by_cases e : j = nid
    · subst e
      rw [upd_same] at hj; cases hj
      rw [hblk]; exact hR.room i l hi
    · rw [upd_ne e] at hj; exact hR.room j m hj
  · intro j c hc hcl
    by_cases e : j = nid
    · subst e; exact ⟨_, upd_same _ _ _⟩
    · have ji : j ≠ i := fun e => by subst e; rw [gi] at hc; cases hc; cases hcl
      rw [go j ji e] at hc
      obtain ⟨m, hm⟩ := hR.tot j c hc hcl
      exact ⟨m, by rw [upd_ne e]; exact hm⟩
  · intro b a e
    obtain ⟨t, fr, q⟩ := hR.imm b a e
    refine ⟨t, fr, (hold b fun z => ?_).trans q⟩
    have := hR.isep i l b0 hi hb0 hl0 hw
    have e' : ρ.im b = some a := e
    rw [← z, e'] at this; cases this
  · intro j m c hj hc hcl hmw
    show ρ.im m.blk = none
    by_cases e : j = nid
    · subst e
      rw [upd_same] at hj; cases hj
      rw [hblk]; exact hR.isep i l b0 hi hb0 hl0 hw
    · rw [upd_ne e] at hj
      have ji : j ≠ i := fun e => by subst e; rw [gi] at hc; cases hc; cases hcl
      rw [go j ji e] at hc
      exact hR.isep j m c hj hc hcl hmw
  · intro j m hj hmw
    by_cases e : j = nid
    · subst e
      rw [upd_same] at hj; cases hj
      exact .inl ⟨i, l, hi, hw, hblk.symm⟩
    · rw [upd_ne e] at hj
      exact .inl ⟨j, m, hj, hmw, rfl⟩
  · intro k hk hkn
    exact hold k (Ne.symm (hkn i l hi hw))
/-- The room may be used up: the elder row is given up. -/
theorem does_appendMove {t tx et : TypeId} {esz eb : Nat} (hA : AppT P t tx esz eb et) {x y : Operand} {i off n c k nid : Nat} {u : Value} {rd : List (Nat × ABlk)} {news cs : List Value} (ho : o.op = .call ⟨.builtin .append, #[x, y], #[t, tx]⟩)
    (hx : evO e x = some (.slice (some ⟨i, off, none⟩) n c)) (hy : evO e y = some u) (hS : Src esz u rd k news) (hkp : 0 < k) (hk : c < n + k) (hcs : off + c * esz = cs.length) (hn : n ≤ c) (h1 : news.all (·.oneCell') = true)
    (hb : (n + k) * eb ≤ 140737488355328) (h63 : n + k ≤ 9223372036854775807) :
    OpSem P W0 o e ((i, .cells cs esz true true et) :: rd) [(i, .dead)] [(nid, .cells ((cs.drop off).take (n * esz) ++ news) esz true true et)] (some (.slice (some ⟨nid, 0, none⟩) (n + k) (n + k))) := by
  intro ρ h w a hR hO hrd hal next Q hnext
  have hf := hal _ (List.mem_singleton.mpr rfl)
  obtain ⟨m1, m2⟩ := opnds2 ho
  obtain ⟨ds, d1, d2, d3, d4⟩ := hS.run (P := P) hR (hO y m2 _ hy) (fun p hp => hrd p (List.mem_cons_of_mem _ hp))
  have hv := hO x m1 _ hx
  obtain ⟨v0, hv0⟩ : ∃ v', a.eval x = v' := ⟨_, rfl⟩
  rw [hv0] at hv
  have hblk : h[i]? = some (.cells cs esz true true et) := hrd _ (List.mem_cons_self ..)
  have hO' : ∃ os : List Value, LRel ρ ((cs.drop off).take (n * esz)) os ∧ ((cs.drop off).take (n * esz)).length = n * esz ∧ (Builtin.firstCells esz n v0).run P w.drew = .ok os.toArray w.drew := by
    rcases Nat.eq_zero_or_pos n with rfl | hn'
    · obtain ⟨os, o1, o2, o3, o4⟩ := (Src.empty (esz := esz) i off c).run (P := P) hR hv (by intro p hp; cases hp)
      exact ⟨os, by simpa using o1, by simp, o4 w.drew rfl⟩
    · obtain ⟨os, o1, o2, o3, o4⟩ := (Src.slice (esz := esz) i off n c cs true true et hn' (by rw [← hcs]; exact Nat.add_le_add_left (Nat.mul_le_mul_right _ hn) _)).run (P := P) hR hv (by intro p hp; rw [List.mem_singleton.mp hp]; exact hblk)
      exact ⟨os, o1, o2, o4 w.drew rfl⟩
  obtain ⟨os, o1, o2, o4⟩ := hO'
  have hloc : ∃ l, ρ i = some l := by
    cases hv with
    | slice0 _ _ l y' hl => exact ⟨l, hl⟩
    | slice _ _ _ _ l c' hl g1 g2 g3 g4 => exact ⟨l, hl⟩
  obtain ⟨l, hl⟩ := hloc
  have hB := rd_blk hR hl hblk
  have hsz : 0 < esz := hB.2.1
  have hne : i ≠ nid := fun q => by subst q; rw [hblk] at hf; cases hf
  -- a new row
  have new : ∀ p c', v0 = .slice p n c' → c' < n + k → o.wp P a w next Q := by
    intro p c' hp hlt
    rw [hp] at o4
    obtain ⟨v', ρ', w', r1, r2, r3, r4⟩ := grow_new (ty := o.type) hA hsz hR d3 o1 d1 o2 d2 o4 (d4 w.drew rfl) hlt hb h63 hf
    have hex : (execOp a.eval o).run P w = .ok (.value v') w' := exec_append ho (by rw [hv0, hp]; exact r1)
    unfold Oper.wp
    rw [hex]
    refine hnext v' ρ' w' (fun v hv => by cases hv; exact r4) r2 ?_
    have := rel_dead r3 i
    rw [List.set_comm _ _ (Ne.symm hne)] at this
    exact this
  cases hv with
  | slice0 _ _ l y' hl => exact new _ 0 rfl (by omega)
  | slice _ _ _ _ l2 c' hl2 g1 g2 g3 g4 =>
    rw [hl] at hl2; cases hl2
    by_cases hfit : n + k ≤ c'
    · -- in place
      obtain ⟨info, z, d, u1, u2, u3, u4, u5, u6, u7, u8⟩ := hA.ex
      have hfc := d4 w rfl
      rw [← u3] at hfc
      have hB' := hB
      obtain ⟨b1, b2, b3, b4, b5, b6, cc, tt, fr, hty, b7, b8, b9, b10⟩ := hB'
      have hext : off + c' * esz ≤ l.ext := by
        have := (g3 (by rw [← b1, ← b5]; exact hcs)).2
        rw [← b1] at this; exact this
      have hkk : n * esz + ds.length ≤ c' * esz := by
        rw [← d1.1, d2, ← Nat.add_mul]; exact Nat.mul_le_mul_right _ hfit
      have hrun := run_storeCells_blk P l.blk (l.off + (off + n * esz)) tt fr ds 0 cc w b7 (by omega) (fun q k1 k2 => b10.1 rfl q (by omega) (by omega)) (all_one d1.1 d1.2 h1)
      rw [Nat.add_zero] at hrun
      have hlenN : ((cs.drop off).take (n * esz) ++ news).length = (n + k) * esz := by rw [List.length_append, o2, d2, Nat.add_mul]
      have hmv := rel_move hR (l' := ⟨l.blk, l.off + off, (n + k) * esz, c' * esz, esz, true⟩) (b := .cells ((cs.drop off).take (n * esz) ++ news) esz true true et) hl hblk rfl hf b3.symm rfl rfl
        (.cells (putAt cc (l.off + (off + n * esz)) ds) tt fr) (fun ρ' s => by
          refine ⟨rfl, hsz, rfl, (fun q => by cases q), hlenN, Nat.mul_le_mul_right _ hfit, _, tt, fr, hty, setObjW_at b7 _, by rw [putAt_size]; simp only []; omega, ?_, fun _ q k1 k2 => b10.1 rfl q (by simp only [] at k1; omega) (by simp only [] at k2; omega), fun z => by cases z⟩
          intro q v hq
          simp only []
          by_cases q1 : q < n * esz
          · rw [List.getElem?_append_left (by omega), List.getElem?_take, if_pos q1, List.getElem?_drop] at hq
            obtain ⟨v', p1, p2⟩ := b9 _ _ hq
            refine ⟨v', ?_, p2.mono s⟩
            rw [putAt_out _ _ _ _ (by omega), ← p1]; congr 1; omega
          · rw [List.getElem?_append_right (by omega), o2] at hq
            have hlt : q - n * esz < ds.length := by rw [← d1.1]; exact (List.getElem?_eq_some_iff.mp hq).1
            refine ⟨ds[q - n * esz], ?_, (d1.2 _ _ ds[q - n * esz] hq (by simp [hlt])).mono s⟩
            rw [show l.off + off + q = l.off + (off + n * esz) + (q - n * esz) by omega, putAt_in _ _ _ _ (by omega) hlt]
            simp [hlt])
      have hex : (execOp a.eval o).run P w = .ok (.value (.slice (some ⟨l.blk, l.off + off, none⟩) (n + k) c')) (setObjW w l.blk (.cells (putAt cc (l.off + (off + n * esz)) ds) tt fr)) := by
        refine exec_append ho ?_
        rw [hv0]
        refine run_fits u1 u2 u7 u8 d3 hfc hfit ?_
        rw [add_plain, u3, Nat.add_assoc]
        exact hrun
      unfold Oper.wp
      rw [hex]
      refine hnext _ _ _ (fun v hv => ?_) hmv.2 hmv.1
      cases hv
      have hV := VRel.slice (ρ := upd ρ nid ⟨l.blk, l.off + off, (n + k) * esz, c' * esz, esz, true⟩) nid 0 (n + k) (n + k) _ c' (upd_same _ _ _) (Nat.le_refl _) (by simp) (fun _ => ⟨hfit, by simp⟩) (fun hne' => absurd (by simp) hne')
      simpa using hV
    · exact new _ c' rfl (by omega)
end
end Go.Den
namespace Go.Den
open Go Go.RowKit
section
variable {P : Program} {W0 : World} {o : Oper} {e : Env}

/-- The zero value's cells, so many times. -/
def repL (n : Nat) (z : List Value) : List Value := (List.range (n * z.length)).map fun i => z.getD (i % z.length) .nilIface
theorem repL_length (n : Nat) (z : List Value) : (repL n z).length = n * z.length := by simp [repL]
theorem repL_cl {n : Nat} {z : List Value} (h : z.all cl1 = true) : (repL n z).all cl1 = true := by
  rw [List.all_eq_true]
  intro v hv
  obtain ⟨i, hi, rfl⟩ := List.mem_map.mp hv
  have hlt : i % z.length < z.length := Nat.mod_lt _ (by
    have := List.mem_range.mp hi
    rcases Nat.eq_zero_or_pos z.length with k | k
    · rw [k] at this; simp at this
    · exact k)
  rw [List.getD_eq_getElem?_getD, List.getElem?_eq_getElem hlt]
  exact List.all_eq_true.mp h _ (List.getElem_mem hlt)
theorem repL_one (n : Nat) (v : Value) : repL n [v] = List.replicate n v := by
  apply List.ext_getElem?
  intro k
  simp only [repL, List.length_singleton, Nat.mul_one, List.getElem?_map, List.getElem?_replicate]
  by_cases h : k < n
  · simp [List.getElem?_range h, h, Nat.mod_one]
  · simp [h]
theorem range_rep (n : Nat) (z : List Value) : ((Array.range (n * z.length)).map (fun i => (z.toArray)[i % z.toArray.size]!)).toList = repL n z := by
  rw [Array.toList_map, Array.toList_range]
  unfold repL
  apply List.map_congr_left
  intro i hi
  have hlt : i % z.length < z.length := Nat.mod_lt _ (by
    have := List.mem_range.mp hi
    rcases Nat.eq_zero_or_pos z.length with k | k
    · rw [k] at this; simp at this
    · exact k)
  rw [List.getD_eq_getElem?_getD, List.getElem?_eq_getElem hlt]
  simp [hlt]
/-- make of a slice. -/
theorem does_makeSlice {T : Tys} (hT : TysOk P T) {t : TypeId} {ti : TyI} (ht : T.get t = some ti) {esz eb : Nat} {ea : Bool} {ez : List Value} {et : TypeId} (hsh : ti.sh = .slice esz eb ea ez et) (hsz : 0 < esz) {x y : Operand} {k1 k2 : IntKind} {n c : Nat} (nid : Nat)
    (ho : o.op = .makeSlice t x y) (hx : evO e x = some (.int k1 n)) (hy : evO e y = some (.int k2 c)) (hn : n ≤ c) (hb : c * eb ≤ 281474976710656) (h63 : c ≤ 9223372036854775807) :
    OpSem P W0 o e [] [] [(nid, .cells (repL c ez) esz true false et)] (some (.slice (some ⟨nid, 0, none⟩) n c)) := by
  intro ρ h w a hR hO hrd hal next Q hnext
  have hf := hal _ (List.mem_singleton.mpr rfl)
  have hs := (hT t ti ht).2
  rw [hsh] at hs
  obtain ⟨u1, hI⟩ := hs
  have e1 := (AF.int k1 n).eq (hO x (by simp [ho, Op.operands]) _ hx)
  have e2 := (AF.int k2 c).eq (hO y (by simp [ho, Op.operands]) _ hy)
  obtain ⟨zv, z1, z2, _⟩ := hI.zero_run w
  have hzl := hI.zero_len
  have hzc : zv.cells = ez.toArray := by rw [← z2]
  obtain ⟨hR', hE⟩ := new_blk hR hf (us := repL c ez) (ds := repL c ez) et (sz := esz) hsz rfl (LRel.refl (repL_cl hI.zero_cl)).2
  have hw1 : IntKind.i64.wrap (c : Int) = c := by simp [IntKind.wrap, IntKind.bits, IntKind.signed]; omega
  have hw2 : IntKind.i64.wrap (n : Int) = n := by simp [IntKind.wrap, IntKind.bits, IntKind.signed]; omega
  obtain ⟨info, d, zv', i1, i2, i3, _⟩ := hI.ex
  have hbig : ¬ (281474976710656 < (eb : Int) * (c : Int)) := by
    rw [← Int.natCast_mul, Nat.mul_comm]; omega
  have hbn : ¬ (281474976710656 < (eb : Int) * (n : Int)) := by
    have : n * eb ≤ c * eb := Nat.mul_le_mul_right _ hn
    rw [← Int.natCast_mul, Nat.mul_comm]; omega
  have hcells : (if c * esz = 0 then (pure #[] : Sem (Array Value)) else do pure (← zeroValue et).cells).run P w = .ok (if c * esz = 0 then #[] else ez.toArray) w := by
    split
    · rfl
    · simp [z1, hzc]
  have harr : ((Array.range (c * esz)).map (fun i => ((if c * esz = 0 then #[] else ez.toArray : Array Value))[i % (if c * esz = 0 then #[] else ez.toArray : Array Value).size]!)) = (repL c ez).toArray := by
    apply Array.ext'
    have := range_rep c ez
    rw [hzl] at this
    by_cases hz : c * esz = 0
    · have : repL c ez = [] := List.eq_nil_of_length_eq_zero (by rw [repL_length, hzl]; exact hz)
      rw [this]; simp [hz]
    · simp only [if_neg hz]; exact this
  have hex : (execOp a.eval o).run P w = .ok (.value (.slice (some ⟨w.heap.size, 0, none⟩) n c)) (w.alloc (.cells (repL c ez).toArray et)) := by
    simp only [execOp, ho, e1, e2, Instr.makeSlice, Sem.run_bind, run_underlying u1, Result.andThen_ok, asInt, asIntOf, Sem.run_pure, run_typeInfo i1, i3, hw1, hw2]
    have hc0 : ¬ ((c : Int) < 0) := by omega
    have hn0 : ¬ ((n : Int) < 0) := by omega
    have hcn : ¬ ((n : Int) > (c : Int)) := by omega
    have hd : decide ((eb : Int) * (c : Int) > 2 ^ 48) = false := decide_eq_false (fun k => hbig k)
    simp only [Sem.run_ite, hc0, hn0, hcn, hd, decide_false, Bool.false_or, Bool.or_self, Bool.false_eq_true, if_false, Sem.run_bind, run_askRoom, Result.andThen_ok, hI.size_run, Int.toNat_natCast]
    by_cases hz : c * esz = 0
    · simp only [if_pos hz] at harr
      simp only [if_pos hz, Sem.run_pure, Result.andThen_ok, harr, newRow, Sem.run_bind, run_newObj]
      rfl
    · simp only [if_neg hz] at harr
      simp only [if_neg hz, Sem.run_pure, Result.andThen_ok, z1, hzc, harr, newRow, Sem.run_bind, run_newObj]
      rfl
  unfold Oper.wp
  rw [hex]
  have hV := VRel.slice (ρ := upd ρ nid ⟨w.heap.size, 0, (repL c ez).length, (repL c ez).length, esz, true⟩) nid 0 n c _ c (upd_same _ _ _) hn (by simp only []; rw [repL_length, hzl]; omega)
    (fun _ => ⟨Nat.le_refl _, by simp only []; rw [repL_length, hzl]; omega⟩) (fun _ => rfl)
  exact hnext _ _ _ (fun v hv => by cases hv; simpa using hV) hE hR'

def elPl (esz i : Nat) : Option (Nat × Nat) := some (i * esz, esz)
theorem does_buildArr {T : Tys} (hT : TysOk P T) {t : TypeId} {ti : TyI} (ht : T.get t = some ti) {n esz : Nat} {ea : Bool} (hsh : ti.sh = .arr n esz ea)
    {ps : Array (Nat × Operand)} (ho : o.op = .build t ps) {l : List (Nat × Value)} (hl : evL e ps.toList = some l) {out : List Value} (hf : fillL (elPl esz) ti.zero l = some out) :
    OpSem P W0 o e [] [] [] (some (.agg out.toArray)) := .of_run fun ρ h w a hR hO hrd => by
  have hI := (hT t ti ht).1
  have hs := (hT t ti ht).2
  rw [hsh] at hs
  obtain ⟨e', info, d, u1, u2, u3, u4, u5⟩ := hs
  obtain ⟨zv, z1, z2, _⟩ := hI.zero_run w
  have hP := evL_rel (ρ := ρ) (a := a) ps.toList l (fun x hx v hv => hO x.2 (by simp only [ho, Op.operands]; exact List.mem_toArray.mpr (List.mem_map.mpr ⟨x, hx, rfl⟩)) v hv) hl
  have hz : LRel ρ ti.zero zv.cells.toList := by rw [z2]; exact .refl hI.zero_cl
  obtain ⟨out', p, q⟩ := fill_rel hP _ _ _ hz hf
  refine ⟨.agg out', ?_, ?_⟩
  · have := q.arr; rwa [Array.toArray_toList] at this
  have hps : (ps.map fun (x : Nat × Operand) => (x.1, a.eval x.2)).toList = ps.toList.map fun p => (p.1, a.eval p.2) := by simp
  have hfin : Instr.fill (fun i => some (i * esz, esz)) zv.cells (ps.map fun (x : Nat × Operand) => (x.1, a.eval x.2)).toList = some out' := by
    rw [hps]; exact p
  simp only [execOp, ho, Instr.build, Sem.run_bind, z1, Result.andThen_ok, run_underlying u1, sizeOf, run_typeInfo u2, Sem.run_pure, u3]
  rw [hfin]
  simp
theorem does_buildSlice {T : Tys} (hT : TysOk P T) {t : TypeId} {ti : TyI} (ht : T.get t = some ti) {esz eb : Nat} {ea : Bool} {ez : List Value} {et : TypeId} (hsh : ti.sh = .slice esz eb ea ez et) (hsz : 0 < esz) {n : Nat} {ps : Array (Nat × Operand)} (nid : Nat)
    (ho : o.op = .buildSlice t n ps) {l : List (Nat × Value)} (hl : evL e ps.toList = some l) {out : List Value} (hf : fillL (elPl esz) (repL n ez) l = some out) (hlen : out.length = n * esz) (hb : n * esz ≤ 16777216) :
    OpSem P W0 o e [] [] [(nid, .cells out esz true false et)] (some (.slice (some ⟨nid, 0, none⟩) n n)) := by
  intro ρ h w a hR hO hrd hal next Q hnext
  have hfr := hal _ (List.mem_singleton.mpr rfl)
  have hs := (hT t ti ht).2
  rw [hsh] at hs
  obtain ⟨u1, hI⟩ := hs
  obtain ⟨zv, z1, z2, _⟩ := hI.zero_run w
  have hzl := hI.zero_len
  have hzc : zv.cells = ez.toArray := by rw [← z2]
  have hP := evL_rel (ρ := ρ) (a := a) ps.toList l (fun x hx v hv => hO x.2 (by simp only [ho, Op.operands]; exact List.mem_toArray.mpr (List.mem_map.mpr ⟨x, hx, rfl⟩)) v hv) hl
  have harr : ((Array.range (n * esz)).map (fun i => ((if n * esz = 0 then #[] else ez.toArray : Array Value))[i % (if n * esz = 0 then #[] else ez.toArray : Array Value).size]!)) = (repL n ez).toArray := by
    apply Array.ext'
    have := range_rep n ez
    rw [hzl] at this
    by_cases hz : n * esz = 0
    · have : repL n ez = [] := List.eq_nil_of_length_eq_zero (by rw [repL_length, hzl]; exact hz)
      rw [this]; simp [hz]
    · simp only [if_neg hz]; exact this
  obtain ⟨out', p, q⟩ := fill_rel hP (repL n ez) (repL n ez).toArray out (LRel.refl (repL_cl hI.zero_cl)) hf
  obtain ⟨hR', hE⟩ := new_blk hR hfr (us := out) (ds := out'.toList) et (sz := esz) hsz q.1 q.2
  have hps : (ps.map fun (x : Nat × Operand) => (x.1, a.eval x.2)).toList = ps.toList.map fun p => (p.1, a.eval p.2) := by simp
  have hex : (execOp a.eval o).run P w = .ok (.value (.slice (some ⟨w.heap.size, 0, none⟩) n n)) (w.alloc (.cells out'.toList.toArray et)) := by
    have hfin : Instr.fill (fun i => some (i * esz, esz)) (repL n ez).toArray (ps.map fun (x : Nat × Operand) => (x.1, a.eval x.2)).toList = some out' := by rw [hps]; exact p
    have hbig : ¬ (n * esz > 2 ^ 24) := by omega
    simp only [execOp, ho, Instr.buildSlice, Sem.run_bind, run_underlying u1, Result.andThen_ok, hI.size_run, Sem.run_ite, if_neg hbig]
    by_cases hz : n * esz = 0
    · simp only [if_pos hz] at harr
      simp only [if_pos hz, Sem.run_pure, Result.andThen_ok, harr, hfin, newRow, Sem.run_bind, run_newObj, Array.toArray_toList]
      rfl
    · simp only [if_neg hz] at harr
      simp only [if_neg hz, Sem.run_bind, Sem.run_pure, Result.andThen_ok, z1, hzc, harr, hfin, newRow, run_newObj, Array.toArray_toList]
      rfl
  unfold Oper.wp
  rw [hex]
  have hV := VRel.slice (ρ := upd ρ nid ⟨w.heap.size, 0, out.length, out.length, esz, true⟩) nid 0 n n _ n (upd_same _ _ _) (Nat.le_refl _) (by simp only []; omega)
    (fun _ => ⟨Nat.le_refl _, by simp only []; omega⟩) (fun _ => rfl)
  exact hnext _ _ _ (fun v hv => by cases hv; simpa using hV) hE hR'

/-! ### builtins -/
theorem exec_len {t : TypeId} {x : Operand} (ho : o.op = .call ⟨.builtin .len, #[x], #[t]⟩) {a : Act} {w : World} {v : Value}
    (h : (Builtin.len_ #[t] o.type #[a.eval x]).run P w = .ok v w) : (execOp a.eval o).run P w = .ok (.value v) w := by
  obtain ⟨k, hk⟩ := exec_builtin ho a
  rw [hk, show (#[x] : Array Operand).map a.eval = #[a.eval x] by simp]
  simp [builtin, h]
theorem does_lenS {T : Tys} (hT : TysOk P T) {t : TypeId} {ti : TyI} (ht : T.get t = some ti) (hsh : ti.sh = .string) {x : Operand} {s : ByteArray} (ho : o.op = .call ⟨.builtin .len, #[x], #[t]⟩) (hx : evO e x = some (.string s)) :
    OpSem P W0 o e [] [] [] (some (.int .i64 s.size)) := by
  have hs := (hT t ti ht).2
  rw [hsh] at hs
  refine .of_run fun ρ h w a hR hO hrd => ⟨_, .int _ _, exec_len ho ?_⟩
  rw [(AF.string s).eq (hO x (mem_call ho (by simp)) _ hx)]
  simp [Builtin.len_, run_underlying hs, goInt]
theorem does_lenL {T : Tys} (hT : TysOk P T) {t : TypeId} {ti : TyI} (ht : T.get t = some ti) {esz eb : Nat} {ea : Bool} {ez : List Value} {et : TypeId} (hsh : ti.sh = .slice esz eb ea ez et) {x : Operand} {p : Option Addr} {n c : Nat}
    (ho : o.op = .call ⟨.builtin .len, #[x], #[t]⟩) (hx : evO e x = some (.slice p n c)) : OpSem P W0 o e [] [] [] (some (.int .i64 n)) := by
  have hs := (hT t ti ht).2
  rw [hsh] at hs
  refine .of_run fun ρ h w a hR hO hrd => ⟨_, .int _ _, exec_len ho ?_⟩
  have hv := hO x (mem_call ho (by simp)) _ hx
  obtain ⟨v', hv'⟩ : ∃ v', a.eval x = v' := ⟨_, rfl⟩
  rw [hv'] at hv ⊢
  cases hv <;> simp [Builtin.len_, run_underlying hs.1, goInt]
theorem exec_mm {b : Builtin} {x y : Operand} {ts : Array TypeId} (ho : o.op = .call ⟨.builtin b, #[x, y], ts⟩) {a : Act} {w : World} {v : Value} (f : Array TypeId → TypeId → Array Value → Sem Value)
    (hf : ∀ k args, builtin b ts o.type k args = (do pure (.value (← f ts o.type args)) : Sem Next)) (h : (f ts o.type #[a.eval x, a.eval y]).run P w = .ok v w) : (execOp a.eval o).run P w = .ok (.value v) w := by
  obtain ⟨k, hk⟩ := exec_builtin ho a
  rw [hk, map2, hf]
  simp [h]
theorem does_min {x y : Operand} {ts : Array TypeId} {k k' : IntKind} {m n : Int} (ho : o.op = .call ⟨.builtin .min, #[x, y], ts⟩) (hx : evO e x = some (.int k m)) (hy : evO e y = some (.int k' n)) :
    OpSem P W0 o e [] [] [] (some (.int k (if n < m then n else m))) := .of_run fun ρ h w a hR hO hrd => ⟨_, .int _ _, exec_mm ho Builtin.min_ (fun _ _ => rfl) (by
  rw [(AF.int k m).eq (hO x (mem_call ho (by simp)) _ hx), (AF.int k' n).eq (hO y (mem_call ho (by simp)) _ hy)]
  exact run_min_int2 w ts o.type k k' m n)⟩
theorem does_max {x y : Operand} {ts : Array TypeId} {k k' : IntKind} {m n : Int} (ho : o.op = .call ⟨.builtin .max, #[x, y], ts⟩) (hx : evO e x = some (.int k m)) (hy : evO e y = some (.int k' n)) :
    OpSem P W0 o e [] [] [] (some (.int k (if n > m then n else m))) := .of_run fun ρ h w a hR hO hrd => ⟨_, .int _ _, exec_mm ho Builtin.max_ (fun _ _ => rfl) (by
  rw [(AF.int k m).eq (hO x (mem_call ho (by simp)) _ hx), (AF.int k' n).eq (hO y (mem_call ho (by simp)) _ hy)]
  exact run_max_int2 w ts o.type k k' m n)⟩
end
end Go.Den
