import Derived.Test.YtcfhmbhlibhlnaaDoorDenA
import Derived.Laws.IdiomStrings
import Derived.Lib.OthersKept
import Derived.Deep.LoopGhost
set_option linter.unusedVariables false
set_option linter.unusedSimpArgs false
set_option linter.unusedSectionVars false
set_option linter.constructorNameAsVariable false
namespace Go.Den
open Go Go.RowKit
section
variable {P : Program} {W0 : World} {o : Oper} {e : Env}
/-- The cells of bytes. -/
def byteV (l : List UInt8) : List Value := l.map fun b => .int .u8 b.toNat
theorem byteV_cl (l : List UInt8) : (byteV l).all cl1 = true := by
  rw [List.all_eq_true]; intro v hv; obtain ⟨b, _, rfl⟩ := List.mem_map.mp hv; rfl
theorem byteV_length (l : List UInt8) : (byteV l).length = l.length := by simp [byteV]
theorem does_convBS {T : Tys} (hT : TysOk P T) {src dst et : TypeId} {si di ei : TyI} (hs : T.get src = some si) (hd : T.get dst = some di) (he : T.get et = some ei) {eb : Nat} {ea : Bool} {ez : List Value} (hss : si.sh = .slice 1 eb ea ez et) (hds : di.sh = .string)
    (hes : ei.sh = .int .u8) {x : Operand} {i off n c : Nat} {cs : List Value} {wr sp : Bool} {ty : TypeId} {l : List UInt8} (ho : o.op = .convert src dst x) (hx : evO e x = some (.slice (some ⟨i, off, none⟩) n c)) (hn : 0 < n)
    (hl : (cs.drop off).take n = byteV l) (hle : off + n ≤ cs.length) : OpSem P W0 o e [(i, .cells cs 1 wr sp ty)] [] none (some (.string ⟨l.toArray⟩)) := .of_run fun ρ h w a hR hO hrd => by
  have h1 := (hT src si hs).2; rw [hss] at h1
  have h2 := (hT dst di hd).2; rw [hds] at h2
  have h3 := (hT et ei he).2; rw [hes] at h3
  obtain ⟨q, c', hq, e1, _⟩ := slice_inv (hO x (by simp [ho, Op.operands]) _ hx) hn
  obtain ⟨ds, d1, d2, d3⟩ := cells_part (rd_blk hR hq (hrd _ (List.mem_singleton.mpr rfl))) off n hle
  have hll : l.length = n := by
    have := congrArg List.length hl
    rw [byteV_length, List.length_take, List.length_drop] at this; omega
  have hds' : ds = byteV l := by
    apply List.ext_getElem?
    intro j
    by_cases hj : j < n
    · have p1 : ((cs.drop off).take n)[j]? = some (Value.int .u8 ((l[j]'(by omega)).toNat : Int)) := by
        rw [hl]; unfold byteV; simp [hj, hll]
      have p2 : ds[j]? = some (ds[j]'(by omega)) := by simp [d1, hj]
      rw [p2, (AF.int _ _).eq (d3 j _ _ p1 p2), ← hl, p1]
    · rw [List.getElem?_eq_none (by omega), List.getElem?_eq_none (by rw [byteV_length]; omega)]
  refine ⟨_, .string _, ?_⟩
  have hr := run_convert_bytes_back (P := P) w src dst et ⟨q.blk, q.off + off, none⟩ c' l h1.1 h3 h2 (fun j hj => by
    rw [add_plain]
    refine d2 j _ ?_
    rw [hds']; unfold byteV; simp [hj])
  rw [hll] at hr
  simp [execOp, ho, e1, hr]
theorem does_convBN {T : Tys} (hT : TysOk P T) {src dst et : TypeId} {si di ei : TyI} (hs : T.get src = some si) (hd : T.get dst = some di) (he : T.get et = some ei) {eb esz : Nat} {ea : Bool} {ez : List Value} (hss : si.sh = .slice esz eb ea ez et) (hds : di.sh = .string)
    (hes : ei.sh = .int .u8) {x : Operand} {p : Option Addr} {c : Nat} (ho : o.op = .convert src dst x) (hx : evO e x = some (.slice p 0 c)) : OpSem P W0 o e [] [] none (some (.string ⟨#[]⟩)) := .of_run fun ρ h w a hR hO hrd => by
  have h1 := (hT src si hs).2; rw [hss] at h1
  have h2 := (hT dst di hd).2; rw [hds] at h2
  have h3 := (hT et ei he).2; rw [hes] at h3
  have hv := hO x (by simp [ho, Op.operands]) _ hx
  refine ⟨_, .string _, ?_⟩
  obtain ⟨v', hv'⟩ : ∃ v', a.eval x = v' := ⟨_, rfl⟩
  rw [hv'] at hv
  cases hv with
  | sliceN _ _ =>
    have hr := run_convert_bytes_nil (P := P) w src et h1.1 h3 0 c dst h2
    simp [execOp, ho, hv', hr]; rfl
  | slice i off _ _ q c' hq _ _ _ _ =>
    have hr := run_convert_bytes_back (P := P) w src dst et ⟨q.blk, q.off + off, none⟩ c' [] h1.1 h3 h2 (fun j hj => by cases hj)
    simp only [List.length_nil] at hr
    simp [execOp, ho, hv', hr]
  | slice0 i off q y hq =>
    have hr := run_convert_bytes_back (P := P) w src dst et ⟨q.blk, y, none⟩ 0 [] h1.1 h3 h2 (fun j hj => by cases hj)
    simp only [List.length_nil] at hr
    simp [execOp, ho, hv', hr]
theorem does_convSB {T : Tys} (hT : TysOk P T) {src dst et : TypeId} {si di ei : TyI} (hs : T.get src = some si) (hd : T.get dst = some di) (he : T.get et = some ei) {eb : Nat} {ea : Bool} {ez : List Value} (hss : si.sh = .string) (hds : di.sh = .slice 1 eb ea ez et)
    (hes : ei.sh = .int .u8) {x : Operand} {s : ByteArray} (nid : Nat) (ho : o.op = .convert src dst x) (hx : evO e x = some (.string s)) :
    OpSem P W0 o e [] [] (some (nid, .cells (byteV s.data.toList) 1 true true et)) (some (.slice (some ⟨nid, 0, none⟩) s.size s.size)) := by
  intro ρ h w a hR hO hrd hal next Q hnext
  have hf := hal _ rfl
  have h1 := (hT src si hs).2; rw [hss] at h1
  have h2 := (hT dst di hd).2; rw [hds] at h2
  have h3 := (hT et ei he).2; rw [hes] at h3
  have e1 := (AF.string s).eq (hO x (by simp [ho, Op.operands]) _ hx)
  have hr := run_bytes_of_string (P := P) w src dst et s h1 h2.1 h3
  have hcap : s.size ≤ grownCap w s.size 0 et := by show s.size ≤ s.size + _; omega
  have hbr : (bytesRow s (grownCap w s.size 0 et)).toList = byteV s.data.toList ++ List.replicate (grownCap w s.size 0 et - s.size) (.int .u8 0) := by
    simp [bytesRow, byteV]
  have hsz : (bytesRow s (grownCap w s.size 0 et)).size = grownCap w s.size 0 et := by
    rw [← Array.length_toList, hbr]; simp [byteV]; omega
  have hl8 : (byteV s.data.toList).length = s.size := by simp [byteV]
  have hall := rel_alloc hR.drew hf (.cells (bytesRow s (grownCap w s.size 0 et)) et ((bytesRow s (grownCap w s.size 0 et)).size, (bytesRow s (grownCap w s.size 0 et)).size + 1)) (.cells (byteV s.data.toList) 1 true true et)
    ⟨w.heap.size, 0, s.size, grownCap w s.size 0 et, 1, true⟩ rfl rfl (fun ρ' sb => by
      refine ⟨rfl, by decide, rfl, (fun q => by cases q), hl8, hcap, bytesRow s (grownCap w s.size 0 et), et, ((bytesRow s (grownCap w s.size 0 et)).size, (bytesRow s (grownCap w s.size 0 et)).size + 1), rfl, ?_, ?_, ?_, ?_⟩
      · show (w.heap.push _)[w.heap.size]? = _; simp
      · simp only []; omega
      · intro k v hk
        refine ⟨v, ?_, (cl1_af (List.all_eq_true.mp (byteV_cl _) v (List.mem_of_getElem? hk))).rel ρ'⟩
        rw [← Array.getElem?_toList, hbr]
        simp only [Nat.zero_add]
        rw [List.getElem?_append_left (List.getElem?_eq_some_iff.mp hk).1]; exact hk
      · intro _ k k1 k2
        simp only [] at k2
        have : ¬ ((bytesRow s (grownCap w s.size 0 et)).size ≤ k) := by omega
        simp [this])
  have hex : (execOp a.eval o).run P w = .ok (.value (.slice (some ⟨w.heap.size, 0, none⟩) s.size (grownCap w s.size 0 et))) (w.drew.alloc (.cells (bytesRow s (grownCap w s.size 0 et)) et ((bytesRow s (grownCap w s.size 0 et)).size, (bytesRow s (grownCap w s.size 0 et)).size + 1))) := by
    simp [execOp, ho, e1, hr]
  unfold Oper.wp
  rw [hex]
  refine hnext _ _ _ (fun v hv => ?_) ((ext_drawn ρ w _).trans hall.2) hall.1
  cases hv
  have hV := VRel.slice (ρ := upd ρ nid ⟨w.heap.size, 0, s.size, grownCap w s.size 0 et, 1, true⟩) nid 0 s.size s.size _ (grownCap w s.size 0 et) (upd_same _ _ _) (Nat.le_refl _) (by simp) (fun _ => ⟨hcap, by simp⟩) (fun hne => absurd (by simp) hne)
  simpa using hV
/-! ### the runes of a text -/
theorem does_range {T : Tys} (hT : TysOk P T) {t : TypeId} {ti : TyI} (ht : T.get t = some ti) (hsh : ti.sh = .string) {x : Operand} {s : ByteArray} (nid : Nat) (ho : o.op = .range t x) (hx : evO e x = some (.string s)) :
    OpSem P W0 o e [] [] (some (nid, .iter s 0)) (some (.pointer (some ⟨nid, 0, none⟩))) := by
  intro ρ h w a hR hO hrd hal next Q hnext
  have hs := (hT t ti ht).2
  rw [hsh] at hs
  have e1 := (AF.string s).eq (hO x (by simp [ho, Op.operands]) _ hx)
  obtain ⟨hR', hE⟩ := rel_alloc hR (hal _ rfl) (.stringIter s 0) (.iter s 0) ⟨w.heap.size, 0, 0, 0, 1, true⟩ rfl rfl (fun ρ' _ => ⟨rfl, rfl, by show (w.heap.push _)[w.heap.size]? = _; simp⟩)
  have hex : (execOp a.eval o).run P w = .ok (.value (.pointer (some ⟨w.heap.size, 0, none⟩))) (w.alloc (.stringIter s 0)) := by
    simp [execOp, ho, e1, run_range_string w t s hs, World.iter]
  unfold Oper.wp
  rw [hex]
  exact hnext _ _ _ (fun v hv => by cases hv; exact .ptr nid 0 _ (upd_same _ _ _)) hE hR'
theorem iter_run {w : World} {b : Nat} {s : ByteArray} {pos : Nat} (hb : w.heap[b]? = some (.stringIter s pos)) (ty : TypeId) :
    (Instr.next (.pointer (some ⟨b, 0, none⟩)) true ty).run P w = if pos < s.size then .ok (.tuple #[.bool true, .int .i64 pos, .int .i32 (Utf8.decode s pos).1]) (setObjW w b (.stringIter s (pos + (Utf8.decode s pos).2))) else .ok (.tuple #[.bool false]) w := by
  simp only [Instr.next, getObj, setObj, Sem.run_bind, Sem.run, hb, Result.andThen]
  split
  · simp only [Sem.run, Sem.bind, Result.andThen, hb, goInt, Sem.run_bind, Sem.run_pure]; rfl
  · rfl
theorem does_next {x : Operand} {i : Nat} {s : ByteArray} {pos : Nat} (ho : o.op = .next x true) (hx : evO e x = some (.pointer (some ⟨i, 0, none⟩))) (hp : pos < s.size) :
    OpSem P W0 o e [(i, .iter s pos)] [(i, .iter s (pos + (Utf8.decode s pos).2))] none (some (.tuple #[.bool true, .int .i64 pos, .int .i32 (Utf8.decode s pos).1])) := by
  intro ρ h w a hR hO hrd hal next Q hnext
  have hb := hrd _ (List.mem_singleton.mpr rfl)
  have hx' := hO x (by simp [ho, Op.operands]) _ hx
  obtain ⟨l, hl, e1⟩ := ptr_inv hx'
  obtain ⟨g1, g0, g2⟩ := rd_blk hR hl hb
  rw [g0] at e1
  obtain ⟨hR', hE⟩ := rel_set hR hl hb rfl (b := .iter s (pos + (Utf8.decode s pos).2)) rfl g1 (.stringIter s (pos + (Utf8.decode s pos).2)) ⟨g1, g0, setObjW_at g2 _⟩
  have hex : (execOp a.eval o).run P w = .ok (.value (.tuple #[.bool true, .int .i64 pos, .int .i32 (Utf8.decode s pos).1])) (setObjW w l.blk (.stringIter s (pos + (Utf8.decode s pos).2))) := by
    simp only [execOp, ho, e1, Sem.run_bind, iter_run g2, if_pos hp, Result.andThen_ok, Sem.run_pure]
  unfold Oper.wp
  rw [hex]
  refine hnext _ ρ _ (fun v hv => ?_) hE hR'
  cases hv
  exact (AF.tuple (by
    intro v hv
    simp only [List.mem_toArray, List.mem_cons, List.not_mem_nil, or_false] at hv
    rcases hv with rfl | rfl | rfl
    · exact .bool _
    · exact .int _ _
    · exact .int _ _)).rel ρ
theorem does_nextEnd {x : Operand} {i : Nat} {s : ByteArray} {pos : Nat} (ho : o.op = .next x true) (hx : evO e x = some (.pointer (some ⟨i, 0, none⟩))) (hp : ¬ pos < s.size) :
    OpSem P W0 o e [(i, .iter s pos)] [] none (some (.tuple #[.bool false])) := .of_run fun ρ h w a hR hO hrd => by
  have hb := hrd _ (List.mem_singleton.mpr rfl)
  obtain ⟨l, hl, e1⟩ := ptr_inv (hO x (by simp [ho, Op.operands]) _ hx)
  obtain ⟨g1, g0, g2⟩ := rd_blk hR hl hb
  rw [g0] at e1
  refine ⟨_, (AF.tuple (by intro v hv; simp only [List.mem_toArray, List.mem_cons, List.not_mem_nil, or_false] at hv; subst hv; exact .bool _)).rel ρ, ?_⟩
  simp only [execOp, ho, e1, Sem.run_bind, iter_run g2, if_neg hp, Result.andThen_ok, Sem.run_pure]
end
end Go.Den
namespace Go.Den
open Go Go.RowKit

/-- A function without a body: what it answers. -/
abbrev ExtK := List Value → (Value → Prop) → Prop
structure Ctx where
  P : Program
  W0 : World
  T : Tys
  X : FuncId → Option ExtK
structure Ctx.Ok (C : Ctx) : Prop where
  ty : TysOk C.P C.T
  pl : TysPl C.P C.T
  mixed : C.P.follows .mixedOrders = true
  ext : ∀ (f : FuncId) (F : ExtK), C.X f = some F → ∀ (args : List Value) (K : Value → Prop), F args K → ∃ v, K v ∧ ∀ (ρ : Ren) (w : World) (args' : List Value), LRel ρ args args' → ∃ v', VRel ρ v v' ∧ (callFunc f args'.toArray).run C.P w = .ok (.value v') w

def brP (b : Bool) (y n : Prop) : Prop := match b with | true => y | false => n
theorem brP.intro {b : Bool} {y n : Prop} (h1 : b = true → y) (h2 : b = false → n) : brP b y n := by
  cases b
  · exact h2 rfl
  · exact h1 rfl

theorem brP.cases {b : Bool} {y n : Prop} (h : brP b y n) : (b = true ∧ y) ∨ (b = false ∧ n) := by
  cases b
  · exact .inr ⟨rfl, h⟩
  · exact .inl ⟨rfl, h⟩

def bndK (e : Env) (x : Option Operand) (d : Nat) (K : Int → Prop) : Prop :=
  match x with
  | none => K d
  | some x => match evO e x with
    | some (.int _ n) => K n
    | _ => False
theorem bndK_ex {e : Env} {x : Option Operand} {d : Nat} {K : Int → Prop} (h : bndK e x d K) : ∃ n : Int, K n ∧ (0 ≤ n → Bnd e x d n.toNat) ∧ (x = none → n = d) := by
  unfold bndK at h
  split at h
  · exact ⟨_, h, fun _ => by simp [Bnd], fun _ => rfl⟩
  · split at h
    · rename_i k n hx
      exact ⟨n, h, fun h0 => ⟨k, by rw [hx, Int.toNat_of_nonneg h0]⟩, fun q => by cases q⟩
    · exact h.elim
/-- The part of a block that a pointer or a slice leads to. -/
def cellsK (h : AHeap) (i : Nat) (K : List Value → Nat → Bool → Bool → TypeId → Prop) : Prop :=
  ∃ cs sz wr sp ty, h[i]? = some (.cells cs sz wr sp ty) ∧ K cs sz wr sp ty
def srcK (h : AHeap) (esz : Nat) (u : Value) (K : List (Nat × ABlk) → Nat → List Value → Prop) : Prop :=
  match u with
  | .slice none 0 0 => K [] 0 []
  | .slice (some ⟨i, off, none⟩) n c => (n = 0 ∧ K [] 0 []) ∨ (0 < n ∧ cellsK h i fun cs sz wr sp ty => sz = esz ∧ off + n * esz ≤ cs.length ∧ K [(i, .cells cs sz wr sp ty)] n ((cs.drop off).take (n * esz)))
  | .string s => esz = 1 ∧ K [] s.size (s.data.toList.map fun b => .int .u8 b.toNat)
  | _ => False
theorem srcK_ex {h : AHeap} {esz : Nat} {u : Value} {K : List (Nat × ABlk) → Nat → List Value → Prop} (q : srcK h esz u K) : ∃ rd n news, Src esz u rd n news ∧ (∀ p ∈ rd, h[p.1]? = some p.2) ∧ K rd n news := by
  unfold srcK at q
  split at q
  · exact ⟨_, _, _, .nil, (fun p hp => nomatch hp), q⟩
  · rcases q with ⟨rfl, q⟩ | ⟨h0, cs, sz, wr, sp, ty, hb, rfl, hl, q⟩
    · exact ⟨_, _, _, .empty _ _ _, (fun p hp => nomatch hp), q⟩
    · exact ⟨_, _, _, .slice _ _ _ _ cs wr sp ty h0 hl, (fun p hp => by rw [List.mem_singleton.mp hp]; exact hb), q⟩
  · obtain ⟨h1, q⟩ := q
    exact ⟨_, _, _, .string _ h1, (fun p hp => nomatch hp), q⟩
  · exact q.elim

def loadK (T : Tys) (t : TypeId) (p : Value) (h : AHeap) (K : Eff → Prop) : Prop :=
  match p with
  | .pointer (some ⟨i, off, none⟩) => tyK T t fun ti => cellsK h i fun cs sz wr sp ty =>
      match ti.agg with
      | true => off + ti.size ≤ cs.length ∧ K ⟨some (.agg ((cs.drop off).take ti.size).toArray), [(i, .cells cs sz wr sp ty)], [], none⟩
      | false => ∃ v, cs[off]? = some v ∧ K ⟨some v, [(i, .cells cs sz wr sp ty)], [], none⟩
  | _ => False
def storeK (T : Tys) (t : TypeId) (p v : Value) (h : AHeap) (K : Eff → Prop) : Prop :=
  match p with
  | .pointer (some ⟨i, off, none⟩) => tyK T t fun ti => cellsK h i fun cs sz wr sp ty =>
      wr = true ∧ v.cells.toList.length = ti.size ∧ off + v.cells.toList.length ≤ cs.length ∧ v.cells.toList.all (·.oneCell') = true ∧
      K ⟨none, [(i, .cells cs sz true sp ty)], [(i, .cells (putL cs off v.cells.toList) sz true sp ty)], none⟩
  | _ => False
def newPtr (h : AHeap) : Value := .pointer (some ⟨h.length, 0, none⟩)
def idxK (T : Tys) (t : TypeId) (u v : Value) (K : Eff → Prop) : Prop :=
  match u, v with
  | .string s, .int _ j => tyK T t fun ti => match ti.sh with
    | .string => 0 ≤ j ∧ j < s.size ∧ K (pure1 (.int .u8 (byteAt s j)))
    | _ => False
  | .agg cs, .int _ j => tyK T t fun ti => match ti.sh with
    | .arr n esz ea => 0 ≤ j ∧ j < n ∧ match ea with
      | true => K (pure1 (.agg ((cs.toList.drop (j.toNat * esz)).take esz).toArray))
      | false => ∃ v, cs.toList[j.toNat * esz]? = some v ∧ K (pure1 v)
    | _ => False
  | _, _ => False
def idxAddrK (T : Tys) (t : TypeId) (u v : Value) (K : Eff → Prop) : Prop :=
  match u, v with
  | .slice (some ⟨i, off, none⟩) n _, .int _ j => tyK T t fun ti => match ti.sh with
    | .slice esz _ _ _ _ => 0 ≤ j ∧ j < n ∧ K (pure1 (.pointer (some ⟨i, off + j.toNat * esz, none⟩)))
    | _ => False
  | .pointer (some ⟨i, off, none⟩), .int _ j => tyK T t fun ti => match ti.sh with
    | .arr n esz _ => 0 ≤ j ∧ j < n ∧ K (pure1 (.pointer (some ⟨i, off + j.toNat * esz, none⟩)))
    | _ => False
  | _, _ => False
def fieldAddrK (T : Tys) (t : TypeId) (u : Value) (k : Nat) (K : Eff → Prop) : Prop :=
  match u with
  | .pointer (some ⟨i, off, none⟩) => tyK T t fun ti => match ti.sh with
    | .struct fs => match fs[k]? with
      | some x => Nat.beq x.2.1 0 = false ∧ K (pure1 (.pointer (some ⟨i, off + x.1, none⟩)))
      | none => False
    | _ => False
  | _ => False
def fieldK (T : Tys) (t : TypeId) (u : Value) (k : Nat) (K : Eff → Prop) : Prop :=
  match u with
  | .agg cs => tyK T t fun ti => match ti.sh with
    | .struct fs => match fs[k]? with
      | some x => match x.2.2 with
        | true => K (pure1 (.agg ((cs.toList.drop x.1).take x.2.1).toArray))
        | false => ∃ v, cs.toList[x.1]? = some v ∧ K (pure1 v)
      | none => False
    | _ => False
  | _ => False
def sliceK (T : Tys) (t : TypeId) (u : Value) (e : Env) (h : AHeap) (lo hi mx : Option Operand) (K : Eff → Prop) : Prop :=
  match u, mx with
  | .string s, none => tyK T t fun ti => match ti.sh with
    | .string => bndK e lo 0 fun l => bndK e hi s.size fun r => 0 ≤ l ∧ l ≤ r ∧ r ≤ s.size ∧ K (pure1 (.string (s.extract l.toNat r.toNat)))
    | _ => False
  | .slice none 0 0, none => tyK T t fun ti => match ti.sh with
    | .slice .. => bndK e lo 0 fun l => bndK e hi 0 fun r => 0 ≤ l ∧ l ≤ r ∧ r ≤ 0 ∧ K (pure1 (.slice none 0 0))
    | _ => False
  | .slice (some ⟨i, off, none⟩) n c, none => tyK T t fun ti => match ti.sh with
    | .slice esz _ _ _ _ => bndK e lo 0 fun l => bndK e hi n fun r => 0 ≤ l ∧ l ≤ r ∧ r ≤ c ∧ cellsK h i fun cs sz wr sp ty => sz = esz ∧
        K ⟨some (.slice (some ⟨i, off + l.toNat * esz, none⟩) (r.toNat - l.toNat) (c - l.toNat)), [(i, .cells cs sz wr sp ty)], [], none⟩
    | _ => False
  | .slice (some ⟨i, off, none⟩) n c, some mx => tyK T t fun ti => match ti.sh with
    | .slice esz _ _ _ _ => match hi, evO e mx with
      | some hi, some (.int _ m) => match evO e hi with
        | some (.int _ r) => bndK e lo 0 fun l => 0 ≤ l ∧ l ≤ r ∧ r ≤ m ∧ m ≤ c ∧ cellsK h i fun cs sz wr sp ty => sz = esz ∧
            K ⟨some (if m.toNat = l.toNat then .slice (some ⟨i, noRoomOff cs, none⟩) 0 0 else .slice (some ⟨i, off + l.toNat * esz, none⟩) (r.toNat - l.toNat) (m.toNat - l.toNat)), [(i, .cells cs sz wr sp ty)], [], none⟩
        | _ => False
      | _, _ => False
    | _ => False
  | _, _ => False
def convertK (T : Tys) (src dst : TypeId) (u : Value) (h : AHeap) (K : Eff → Prop) : Prop :=
  match u with
  | .slice p n c => tyK T src fun si => match si.sh with
    | .slice esz _ _ _ et => tyK T et fun ei => match ei.sh with
      | .int .u8 => tyK T dst fun di => match di.sh with
        | .string => (n = 0 ∧ K (pure1 (.string ⟨#[]⟩))) ∨ (esz = 1 ∧ 0 < n ∧ match p with
          | some ⟨i, off, none⟩ => cellsK h i fun cs sz wr sp ty => sz = 1 ∧ off + n ≤ cs.length ∧ ∃ l, (cs.drop off).take n = byteV l ∧ K ⟨some (.string ⟨l.toArray⟩), [(i, .cells cs sz wr sp ty)], [], none⟩
          | _ => False)
        | _ => False
      | _ => False
    | _ => False
  | .string s => tyK T src fun si => match si.sh with
    | .string => tyK T dst fun di => match di.sh with
      | .string => K (pure1 (.string s))
      | .slice esz _ _ _ et => tyK T et fun ei => match ei.sh with
        | .int .u8 => esz = 1 ∧ K ⟨some (.slice (some ⟨h.length, 0, none⟩) s.size s.size), [], [], some (.cells (byteV s.data.toList) 1 true true et)⟩
        | _ => False
      | _ => False
    | _ => False
  | u => tyK T src fun si => match si.sh with
    | .other => False
    | _ => convK T src dst u fun v => K (pure1 v)
def appendK (T : Tys) (t tx : TypeId) (u v : Value) (h : AHeap) (K : Eff → Prop) : Prop :=
  tyK T t fun ti => tyK T tx fun xi => match ti.sh with
  | .slice esz eb _ _ et => (match xi.sh with | .slice .. | .string => True | _ => False) ∧ srcK h esz v fun rd k news =>
    match u with
    | .slice none 0 0 => (k = 0 ∧ K ⟨some (.slice none 0 0), rd, [], none⟩) ∨
        (0 < k ∧ 0 < esz ∧ k * eb ≤ 140737488355328 ∧ k ≤ 9223372036854775807 ∧ K ⟨some (.slice (some ⟨h.length, 0, none⟩) k k), rd, [], some (.cells news esz true true et)⟩)
    | .slice (some ⟨i, off, none⟩) n c => (k = 0 ∧ K ⟨some (.slice (some ⟨i, off, none⟩) n c), rd, [], none⟩) ∨
        (0 < k ∧ cellsK h i fun cs sz wr sp ty => sz = esz ∧ (n + k) * eb ≤ 140737488355328 ∧ n + k ≤ 9223372036854775807 ∧ (
          (n + k ≤ c ∧ wr = true ∧ off + c * esz ≤ cs.length ∧ news.all (·.oneCell') = true ∧
            K ⟨some (.slice (some ⟨i, off, none⟩) (n + k) c), (i, .cells cs sz true sp ty) :: rd, [(i, .cells (putL cs (off + n * esz) news) sz true sp ty)], none⟩) ∨
          (c < n + k ∧ (sp = false ∨ off + c * esz ≠ cs.length) ∧ (n = 0 ∨ off + n * esz ≤ cs.length) ∧
            K ⟨some (.slice (some ⟨h.length, 0, none⟩) (n + k) (n + k)), (i, .cells cs sz wr sp ty) :: rd, [], some (.cells ((cs.drop off).take (n * esz) ++ news) sz true true et)⟩) ∨
          (c < n + k ∧ sp = true ∧ wr = true ∧ ty = et ∧ off + c * esz = cs.length ∧ n ≤ c ∧ news.all (·.oneCell') = true ∧
            K ⟨some (.slice (some ⟨h.length, 0, none⟩) (n + k) (n + k)), (i, .cells cs sz true true et) :: rd, [(i, .dead)], some (.cells ((cs.drop off).take (n * esz) ++ news) sz true true et)⟩)))
    | _ => False
  | _ => False
end Go.Den
namespace Go.Den
open Go Go.RowKit

/-- A call of a built-in function, or of one without a body. -/
def callK (C : Ctx) (c : Call) (e : Env) (h : AHeap) (K : Eff → Prop) : Prop :=
  match c with
  | ⟨.builtin .len, ⟨[x]⟩, ⟨[t]⟩⟩ => evK e x fun u => tyK C.T t fun ti => match u, ti.sh with
    | .string s, .string => K (pure1 (.int .i64 s.size))
    | .slice _ n _, .slice .. => K (pure1 (.int .i64 n))
    | _, _ => False
  | ⟨.builtin .append, ⟨[x, y]⟩, ⟨[t, tx]⟩⟩ => evK e x fun u => evK e y fun v => appendK C.T t tx u v h K
  | ⟨.builtin .min, ⟨[x, y]⟩, _⟩ => evK e x fun u => evK e y fun v => match u, v with
    | .int k m, .int _ n => K (pure1 (.int k (if n < m then n else m)))
    | _, _ => False
  | ⟨.builtin .max, ⟨[x, y]⟩, _⟩ => evK e x fun u => evK e y fun v => match u, v with
    | .int k m, .int _ n => K (pure1 (.int k (if n > m then n else m)))
    | _, _ => False
  | ⟨.value (.func f), args, _⟩ => match C.X f with
    | some F => match evA e args.toList with
      | some us => F us fun v => K (pure1 v)
      | none => False
    | none => False
  | _ => False
/-- An operation that is no call of a function with a body. -/
def opK (C : Ctx) (o : Oper) (e : Env) (h : AHeap) (K : Eff → Prop) : Prop :=
  match o.op with
  | .move x => evK e x fun v => K (pure1 v)
  | .assign x => evK e x fun v => K (pure1 v)
  | .pick c a b => evK e c fun c => match c with
    | .bool t => brP t (evK e a fun v => K (pure1 v)) (evK e b fun v => K (pure1 v))
    | _ => False
  | .alloc t => tyK C.T t fun ti => K ⟨some (newPtr h), [], [], some (.cells ti.zero 1 true false t)⟩
  | .box t x => evK e x fun v => K ⟨some (newPtr h), [], [], some (.cells v.cells.toList 1 true false t)⟩
  | .build t ps => tyK C.T t fun ti => match ti.sh with
    | .struct fs => match evL e ps.toList with
      | some l => match fillL (placesOf fs) ti.zero l with
        | some out => K (pure1 (.agg out.toArray))
        | none => False
      | none => False
    | .arr _ esz _ => match evL e ps.toList with
      | some l => match fillL (elPl esz) ti.zero l with
        | some out => K (pure1 (.agg out.toArray))
        | none => False
      | none => False
    | _ => False
  | .buildSlice t n ps => tyK C.T t fun ti => match ti.sh with
    | .slice esz _ _ ez et => match evL e ps.toList with
      | some l => match fillL (elPl esz) (repL n ez) l with
        | some out => 0 < esz ∧ out.length = n * esz ∧ n * esz ≤ 16777216 ∧ K ⟨some (.slice (some ⟨h.length, 0, none⟩) n n), [], [], some (.cells out esz true false et)⟩
        | none => False
      | none => False
    | _ => False
  | .load t x => evK e x fun p => loadK C.T t p h K
  | .store t x y => evK e x fun p => evK e y fun v => storeK C.T t p v h K
  | .nilCheck x => evK e x fun v => match v with
    | .pointer (some _) => K (pure1 v)
    | .func (.func _) _ _ => K (pure1 v)
    | _ => False
  | .binOp op t x y _ => evK e x fun u => evK e y fun v => binK C.T op t (isConst x || isConst y) u v fun r => K (pure1 r)
  | .unOp op _ x => evK e x fun u => unK op u fun r => K (pure1 r)
  | .convert s d x => evK e x fun u => convertK C.T s d u h K
  | .makeInterface t x => evK e x fun v => tyK C.T t fun ti => match ti.sh with
    | .iface => False
    | .other => False
    | _ => K (pure1 (.iface t v))
  | .makeFunc f a b => match evA e a.toList with
    | some us => match evA e b.toList with
      | some vs => K (pure1 (.func f us.toArray vs.toArray))
      | none => False
    | none => False
  | .makeSlice t x y => evK e x fun u => evK e y fun v => match u, v with
    | .int _ n, .int _ c => tyK C.T t fun ti => match ti.sh with
      | .slice esz eb _ ez et => 0 < esz ∧ 0 ≤ n ∧ n ≤ c ∧ c * eb ≤ 281474976710656 ∧ c ≤ 9223372036854775807 ∧
          K ⟨some (.slice (some ⟨h.length, 0, none⟩) n.toNat c.toNat), [], [], some (.cells (repL c.toNat ez) esz true false et)⟩
      | _ => False
    | _, _ => False
  | .slice t x lo hi mx => evK e x fun u => sliceK C.T t u e h lo hi mx K
  | .fieldAddr t x f => evK e x fun u => fieldAddrK C.T t u f K
  | .field t x f => evK e x fun u => fieldK C.T t u f K
  | .indexAddr t x i => evK e x fun u => evK e i fun v => idxAddrK C.T t u v K
  | .index t x i => evK e x fun u => evK e i fun v => idxK C.T t u v K
  | .range t x => evK e x fun u => match u with
    | .string s => tyK C.T t fun ti => match ti.sh with
      | .string => K ⟨some (newPtr h), [], [], some (.iter s 0)⟩
      | _ => False
    | _ => False
  | .next x true => evK e x fun u => match u with
    | .pointer (some ⟨i, 0, none⟩) => ∃ s pos, h[i]? = some (.iter s pos) ∧
        (pos < s.size → K ⟨some (.tuple #[.bool true, .int .i64 pos, .int .i32 (Utf8.decode s pos).1]), [(i, .iter s pos)], [(i, .iter s (pos + (Utf8.decode s pos).2))], none⟩) ∧
        (¬ pos < s.size → K ⟨some (.tuple #[.bool false]), [(i, .iter s pos)], [], none⟩)
    | _ => False
  | .extract x i => evK e x fun u => match u with
    | .tuple vs => ∃ v, vs.toList[i]? = some v ∧ K (pure1 v)
    | _ => False
  | .call c => callK C c e h K
  | _ => False

theorem evK_of {e : Env} {x : Operand} {K : Value → Prop} (h : evK e x K) : ∃ v, evO e x = some v ∧ K v := evK_ex h
theorem Does.ld {P : Program} {W0 : World} {o : Oper} {e : Env} {h : AHeap} {v : Value} {i : Nat} {b : ABlk} (s : OpSem P W0 o e [(i, b)] [] none (some v)) (hb : h[i]? = some b) : Does P W0 o e h ⟨some v, [(i, b)], [], none⟩ :=
  ⟨s, (fun p hp => by rw [List.mem_singleton.mp hp]; exact hb), (fun p hp => nomatch hp)⟩
theorem Does.rds {P : Program} {W0 : World} {o : Oper} {e : Env} {h : AHeap} {v : Value} {rd : List (Nat × ABlk)} (s : OpSem P W0 o e rd [] none (some v)) (hb : ∀ p ∈ rd, h[p.1]? = some p.2) : Does P W0 o e h ⟨some v, rd, [], none⟩ :=
  ⟨s, hb, (fun p hp => nomatch hp)⟩
theorem Does.nw {P : Program} {W0 : World} {o : Oper} {e : Env} {h : AHeap} {v : Value} {rd : List (Nat × ABlk)} {b : ABlk} (s : OpSem P W0 o e rd [] (some (h.length, b)) (some v)) (hb : ∀ p ∈ rd, h[p.1]? = some p.2) : Does P W0 o e h ⟨some v, rd, [], some b⟩ :=
  ⟨s, hb, (fun p hp => nomatch hp)⟩
theorem rd_nil {h : AHeap} : ∀ p ∈ ([] : List (Nat × ABlk)), h[p.1]? = some p.2 := fun p hp => nomatch hp
theorem toNat_lt {j : Int} {n : Nat} (h0 : 0 ≤ j) (h : j < n) : j.toNat < n := by omega

section
variable {C : Ctx} (hC : C.Ok) {o : Oper} {e : Env} {h : AHeap} {K : Eff → Prop}
include hC
theorem load_sound {t : TypeId} {x : Operand} {p : Value} (ho : o.op = .load t x) (hx : evO e x = some p) (q : loadK C.T t p h K) : ∃ f, Does C.P C.W0 o e h f ∧ K f := by
  unfold loadK at q
  split at q
  · rename_i i off
    obtain ⟨ti, ht, cs, sz, wr, sp, ty, hb, q⟩ := tyK_ex q
    cases ha : ti.agg with
    | true =>
      rw [ha] at q
      exact ⟨_, .ld (does_load hC.ty ht ho hx (by rw [ha, if_pos rfl]; exact ⟨q.1, rfl⟩)) hb, q.2⟩
    | false =>
      rw [ha] at q
      obtain ⟨v, hv, q⟩ := q
      exact ⟨_, .ld (does_load hC.ty ht ho hx (by rw [ha]; simpa using hv)) hb, q⟩
  · exact q.elim
theorem store_sound {t : TypeId} {x y : Operand} {p v : Value} (ho : o.op = .store t x y) (hx : evO e x = some p) (hy : evO e y = some v) (q : storeK C.T t p v h K) : ∃ f, Does C.P C.W0 o e h f ∧ K f := by
  unfold storeK at q
  split at q
  · rename_i i off
    obtain ⟨ti, ht, cs, sz, wr, sp, ty, hb, rfl, q1, q2, q3, q⟩ := tyK_ex q
    exact ⟨_, ⟨does_store hC.ty ht ho hx hy q1 q2 q3, (fun p hp => by rw [List.mem_singleton.mp hp]; exact hb), (fun p hp => by rw [List.mem_singleton.mp hp]; exact ⟨_, List.mem_singleton.mpr rfl⟩)⟩, q⟩
  · exact q.elim
theorem idx_sound {t : TypeId} {x y : Operand} {u v : Value} (ho : o.op = .index t x y) (hx : evO e x = some u) (hy : evO e y = some v) (q : idxK C.T t u v K) : ∃ f, Does C.P C.W0 o e h f ∧ K f := by
  unfold idxK at q
  split at q
  · obtain ⟨ti, ht, q⟩ := tyK_ex q
    split at q
    · rename_i hsh
      exact ⟨_, .pure (does_indexS hC.ty ht hsh ho hx hy q.1 q.2.1), q.2.2⟩
    · exact q.elim
  · obtain ⟨ti, ht, q⟩ := tyK_ex q
    split at q
    · rename_i n esz ea hsh
      obtain ⟨q1, q2, q⟩ := q
      cases ea with
      | true => exact ⟨_, .pure (does_indexA hC.ty ht hsh ho hx hy q1 q2 (by simp [partV])), q⟩
      | false =>
        obtain ⟨v, hv, q⟩ := q
        exact ⟨_, .pure (does_indexA hC.ty ht hsh ho hx hy q1 q2 (by simpa [partV] using hv)), q⟩
    · exact q.elim
  · exact q.elim
theorem idxAddr_sound {t : TypeId} {x y : Operand} {u v : Value} (ho : o.op = .indexAddr t x y) (hx : evO e x = some u) (hy : evO e y = some v) (q : idxAddrK C.T t u v K) : ∃ f, Does C.P C.W0 o e h f ∧ K f := by
  unfold idxAddrK at q
  split at q
  · obtain ⟨ti, ht, q⟩ := tyK_ex q
    split at q
    · rename_i hsh
      exact ⟨_, .pure (does_indexAddr hC.ty ht hsh ho hx hy q.1 q.2.1), q.2.2⟩
    · exact q.elim
  · obtain ⟨ti, ht, q⟩ := tyK_ex q
    split at q
    · rename_i hsh
      exact ⟨_, .pure (does_indexAddrA hC.ty ht hsh ho hx hy q.1 q.2.1), q.2.2⟩
    · exact q.elim
  · exact q.elim
theorem fieldAddr_sound {t : TypeId} {x : Operand} {k : Nat} {u : Value} (ho : o.op = .fieldAddr t x k) (hx : evO e x = some u) (q : fieldAddrK C.T t u k K) : ∃ f, Does C.P C.W0 o e h f ∧ K f := by
  unfold fieldAddrK at q
  split at q
  · obtain ⟨ti, ht, q⟩ := tyK_ex q
    split at q
    · rename_i hsh
      split at q
      · rename_i x hk
        refine ⟨_, .pure (does_fieldAddr hC.ty ht hsh hk (fun z => ?_) ho hx), q.2⟩
        have := q.1; rw [z] at this; cases this
      · exact q.elim
    · exact q.elim
  · exact q.elim
theorem field_sound {t : TypeId} {x : Operand} {k : Nat} {u : Value} (ho : o.op = .field t x k) (hx : evO e x = some u) (q : fieldK C.T t u k K) : ∃ f, Does C.P C.W0 o e h f ∧ K f := by
  unfold fieldK at q
  split at q
  · obtain ⟨ti, ht, q⟩ := tyK_ex q
    split at q
    · rename_i hsh
      split at q
      · rename_i y hk
        cases ha : y.2.2 with
        | true =>
          rw [ha] at q
          exact ⟨_, .pure (does_field hC.ty ht hsh hk ho hx (by rw [ha]; simp [partV])), q⟩
        | false =>
          rw [ha] at q
          obtain ⟨v, hv, q⟩ := q
          exact ⟨_, .pure (does_field hC.ty ht hsh hk ho hx (by rw [ha]; simpa [partV] using hv)), q⟩
      · exact q.elim
    · exact q.elim
  · exact q.elim
theorem slice_sound {t : TypeId} {x : Operand} {lo hi mx : Option Operand} {u : Value} (ho : o.op = .slice t x lo hi mx) (hx : evO e x = some u) (q : sliceK C.T t u e h lo hi mx K) : ∃ f, Does C.P C.W0 o e h f ∧ K f := by
  unfold sliceK at q
  split at q
  · obtain ⟨ti, ht, q⟩ := tyK_ex q
    split at q
    · rename_i hsh
      obtain ⟨l, q, b1, _⟩ := bndK_ex q
      obtain ⟨r, q, b2, _⟩ := bndK_ex q
      obtain ⟨q1, q2, q3, q⟩ := q
      exact ⟨_, .pure (does_sliceS hC.ty ht hsh ho hx (b1 q1) (b2 (by omega)) (by omega) (by omega)), q⟩
    · exact q.elim
  · obtain ⟨ti, ht, q⟩ := tyK_ex q
    split at q
    · rename_i hsh
      obtain ⟨l, q, b1, _⟩ := bndK_ex q
      obtain ⟨r, q, b2, _⟩ := bndK_ex q
      obtain ⟨q1, q2, q3, q⟩ := q
      exact ⟨_, .pure (does_sliceN hC.ty ht hsh ho hx (b1 q1) (b2 (by omega)) (by omega) (by omega)), q⟩
    · exact q.elim
  · obtain ⟨ti, ht, q⟩ := tyK_ex q
    split at q
    · rename_i hsh
      obtain ⟨l, q, b1, _⟩ := bndK_ex q
      obtain ⟨r, q, b2, _⟩ := bndK_ex q
      obtain ⟨q1, q2, q3, cs, sz, wr, sp, ty, hb, rfl, q⟩ := q
      exact ⟨_, .ld (does_slice hC.ty ht hsh ho hx (b1 q1) (b2 (by omega)) (by omega) (by omega)) hb, q⟩
    · exact q.elim
  · obtain ⟨ti, ht, q⟩ := tyK_ex q
    split at q
    · rename_i hsh
      split at q
      · rename_i hi' k2 m hm hz_
        split at q
        · rename_i k3 r hr
          obtain ⟨l, q, b1, _⟩ := bndK_ex q
          obtain ⟨q1, q2, q3, q4, cs, sz, wr, sp, ty, hb, rfl, q⟩ := q
          have e1 : evO e hi' = some (.int k3 (r.toNat : Int)) := by rw [hr, Int.toNat_of_nonneg (by omega)]
          have e2 := hm
          rw [show m = ((m.toNat : Nat) : Int) by omega] at e2
          exact ⟨_, .ld (does_slice3 hC.ty ht hsh ho hx (b1 q1) e1 e2 (by omega) (by omega) (by omega)) hb, q⟩
        · exact q.elim
      · exact q.elim
    · exact q.elim
  · exact q.elim
end
end Go.Den
namespace Go.Den
open Go Go.RowKit
section
variable {C : Ctx} (hC : C.Ok) {o : Oper} {e : Env} {h : AHeap} {K : Eff → Prop}
include hC
theorem und_ex {t : TypeId} {ti : TyI} (ht : C.T.get t = some ti) : ∃ d, C.P.underlying t = some d := by
  obtain ⟨info, d, zv, h1, h2, h3, h4, h5, h6, _⟩ := (hC.ty t ti ht).1.ex
  exact ⟨d, h6⟩
theorem convert_sound {s d : TypeId} {x : Operand} {u : Value} (ho : o.op = .convert s d x) (hx : evO e x = some u) (q : convertK C.T s d u h K) : ∃ f, Does C.P C.W0 o e h f ∧ K f := by
  unfold convertK at q
  split at q
  · obtain ⟨si, hs, q⟩ := tyK_ex q
    split at q
    · rename_i hss
      obtain ⟨ei, he, q⟩ := tyK_ex q
      split at q
      · rename_i hes
        obtain ⟨di, hd, q⟩ := tyK_ex q
        split at q
        · rename_i hds
          rcases q with ⟨rfl, q9⟩ | ⟨rfl, hn, q9⟩
          · exact ⟨_, .pure (does_convBN hC.ty hs hd he hss hds hes ho hx), q9⟩
          · split at q9
            · obtain ⟨cs, sz, wr, sp, ty, hb, rfl, hle, l, hl, q8⟩ := q9
              exact ⟨_, .ld (does_convBS hC.ty hs hd he hss hds hes ho hx hn hl hle) hb, q8⟩
            · exact q9.elim
        · exact q.elim
      · exact q.elim
    · exact q.elim
  · rename_i str
    obtain ⟨si, hs, q⟩ := tyK_ex q
    split at q
    · rename_i hss
      obtain ⟨di, hd, q⟩ := tyK_ex q
      split at q
      · rename_i hds
        have hc : convK C.T s d (.string str) fun v => K (pure1 v) := by
          unfold convK tyK; rw [hs]; simp only [hss]; rw [hd]; simp only [hds]; exact q
        obtain ⟨r, hr, hd'⟩ := does_conv (W0 := C.W0) hC.ty ho hx hc (und_ex hC hs)
        exact ⟨_, .pure hd', hr⟩
      · rename_i hds
        obtain ⟨ei, he, q⟩ := tyK_ex q
        split at q
        · rename_i hes
          obtain ⟨rfl, q9⟩ := q
          exact ⟨_, .nw (does_convSB hC.ty hs hd he hss hds hes h.length ho hx) rd_nil, q9⟩
        · exact q.elim
      · exact q.elim
    · exact q.elim
  · obtain ⟨si, hs, q⟩ := tyK_ex q
    split at q
    · exact q.elim
    · obtain ⟨r, hr, hd'⟩ := does_conv (W0 := C.W0) hC.ty ho hx q (und_ex hC hs)
      exact ⟨_, .pure hd', hr⟩
theorem append_sound {t tx : TypeId} {x y : Operand} {u v : Value} (ho : o.op = .call ⟨.builtin .append, #[x, y], #[t, tx]⟩) (hx : evO e x = some u) (hy : evO e y = some v) (q : appendK C.T t tx u v h K) : ∃ f, Does C.P C.W0 o e h f ∧ K f := by
  unfold appendK at q
  obtain ⟨ti, ht, q⟩ := tyK_ex q
  obtain ⟨xi, hxt, q⟩ := tyK_ex q
  split at q
  · rename_i hsh
    obtain ⟨hxs, q⟩ := q
    have hA := AppT.of hC.ty ht hxt hsh (by revert hxs; cases xi.sh <;> simp)
    obtain ⟨rd, k, news, hS, hrd, q1⟩ := srcK_ex q
    split at q1
    · rcases q1 with ⟨rfl, q2⟩ | ⟨h0, h1, h2, h3, q2⟩
      · exact ⟨_, .rds (does_append0 hA ho hx (fun _ => ⟨rfl, rfl⟩) hy hS) hrd, q2⟩
      · exact ⟨_, .nw (does_appendNil hA h1 ho hx hy hS h0 h2 h3) hrd, q2⟩
    · rcases q1 with ⟨rfl, q2⟩ | ⟨h0, cs, sz, wr, sp, ty, hb, rfl, h2, h3, q2⟩
      · exact ⟨_, .rds (does_append0 hA ho hx (fun z => by cases z) hy hS) hrd, q2⟩
      · have hrd' : ∀ {j : Nat} {b : ABlk}, h[j]? = some b → ∀ p ∈ (j, b) :: rd, h[p.1]? = some p.2 := fun {j b} hb p hp => by
          rcases List.mem_cons.mp hp with hp | hp
          · rw [hp]; exact hb
          · exact hrd p hp
        rcases q2 with ⟨g1, rfl, g2, g3, q3⟩ | ⟨g1, g2, g3, q3⟩ | ⟨g1, rfl, rfl, rfl, g2, g3, g4, q3⟩
        · exact ⟨_, ⟨does_appendFit hA ho hx hy hS h0 g1 g2 g3, hrd' hb, (fun p hp => by rw [List.mem_singleton.mp hp]; exact ⟨_, List.mem_cons_self ..⟩)⟩, q3⟩
        · exact ⟨_, .nw (does_appendNew hA ho hx hy hS g1 g2 g3 h2 h3) (hrd' hb), q3⟩
        · exact ⟨_, ⟨does_appendMove hA ho hx hy hS h0 g1 g2 g3 g4 h2 h3, hrd' hb, (fun p hp => by rw [List.mem_singleton.mp hp]; exact ⟨_, List.mem_cons_self ..⟩)⟩, q3⟩
    · exact q1.elim
  · exact q.elim
theorem ext_sound {f : FuncId} {args : Array Operand} {ts : Array TypeId} {F : ExtK} (ho : o.op = .call ⟨.value (.func f), args, ts⟩) (hF : C.X f = some F) {us : List Value} (hu : evA e args.toList = some us) (q : F us fun v => K (pure1 v)) : ∃ f, Does C.P C.W0 o e h f ∧ K f := by
  obtain ⟨v, hv, hr⟩ := hC.ext f F hF us _ q
  refine ⟨_, .pure (.of_run fun ρ hh w a hR hO hrd => ?_), hv⟩
  have hL := evA_rel (ρ := ρ) (a := a) args.toList us (fun x hx v hv => hO x (mem_call ho (Array.mem_toList_iff.mp hx)) v hv) hu
  obtain ⟨v', hV, hr⟩ := hr ρ w _ hL
  refine ⟨v', hV, ?_⟩
  have heq : args.map a.eval = (args.toList.map a.eval).toArray := by
    apply Array.ext'
    rw [Array.toList_map]
  have hev : a.eval (.func f) = .func (.func f) #[] #[] := rfl
  simp [execOp, ho, resolve, hev, Deferred.ofValue, invoke, heq, hr]
theorem opK_sound (q : opK C o e h K) : ∃ f, Does C.P C.W0 o e h f ∧ K f := by
  obtain ⟨dst, op, ty, pos, after, guard⟩ := o
  unfold opK at q
  cases op <;> simp only at q <;> try (exact q.elim)
  case move x =>
    obtain ⟨v, hv, q⟩ := evK_ex q
    exact ⟨_, .pure (opSem_move (.inl rfl) hv), q⟩
  case assign x =>
    obtain ⟨v, hv, q⟩ := evK_ex q
    exact ⟨_, .pure (opSem_move (.inr rfl) hv), q⟩
  case pick c a b =>
    obtain ⟨v, hv, q⟩ := evK_ex q
    split at q
    · rename_i t
      rcases brP.cases q with ⟨rfl, q⟩ | ⟨rfl, q⟩ <;> obtain ⟨u, hu, q⟩ := evK_ex q
      · exact ⟨_, .pure (does_pick rfl hv (by simpa using hu)), q⟩
      · exact ⟨_, .pure (does_pick rfl hv (by simpa using hu)), q⟩
    · exact q.elim
  case alloc t =>
    obtain ⟨ti, ht, q⟩ := tyK_ex q
    exact ⟨_, .nw (does_alloc hC.ty ht h.length rfl) rd_nil, q⟩
  case box t x =>
    obtain ⟨v, hv, q⟩ := evK_ex q
    exact ⟨_, .nw (does_box h.length rfl hv) rd_nil, q⟩
  case build t ps =>
    obtain ⟨ti, ht, q⟩ := tyK_ex q
    split at q
    · rename_i hsh
      split at q
      · rename_i l hl
        split at q
        · rename_i out hf
          exact ⟨_, .pure (does_build hC.ty ht hsh rfl hl hf), q⟩
        · exact q.elim
      · exact q.elim
    · rename_i hsh
      split at q
      · rename_i l hl
        split at q
        · rename_i out hf
          exact ⟨_, .pure (does_buildArr hC.ty ht hsh rfl hl hf), q⟩
        · exact q.elim
      · exact q.elim
    · exact q.elim
  case buildSlice t n ps =>
    obtain ⟨ti, ht, q⟩ := tyK_ex q
    split at q
    · rename_i hsh
      split at q
      · rename_i l hl
        split at q
        · rename_i out hf
          obtain ⟨q1, q2, q3, q⟩ := q
          exact ⟨_, .nw (does_buildSlice hC.ty ht hsh q1 h.length rfl hl hf q2 q3) rd_nil, q⟩
        · exact q.elim
      · exact q.elim
    · exact q.elim
  case load t x =>
    obtain ⟨v, hv, q⟩ := evK_ex q
    exact load_sound hC rfl hv q
  case store t x y =>
    obtain ⟨v, hv, q⟩ := evK_ex q
    obtain ⟨u, hu, q⟩ := evK_ex q
    exact store_sound hC rfl hv hu q
  case nilCheck x =>
    obtain ⟨v, hv, q⟩ := evK_ex q
    split at q
    · exact ⟨_, .pure (does_nilCheck rfl hv (.inl ⟨_, rfl⟩)), q⟩
    · exact ⟨_, .pure (does_nilCheck rfl hv (.inr ⟨_, _, _, rfl⟩)), q⟩
    · exact q.elim
  case binOp op t x y yt =>
    obtain ⟨v, hv, q⟩ := evK_ex q
    obtain ⟨u, hu, q⟩ := evK_ex q
    obtain ⟨r, hr, hd⟩ := does_bin (o := ⟨dst, .binOp op t x y yt, ty, pos, after, guard⟩) (W0 := C.W0) hC.ty hC.pl rfl hv hu q
    exact ⟨_, .pure hd, hr⟩
  case unOp op t x =>
    obtain ⟨v, hv, q⟩ := evK_ex q
    obtain ⟨r, hr, hd⟩ := does_un (o := ⟨dst, .unOp op t x, ty, pos, after, guard⟩) (P := C.P) (W0 := C.W0) rfl hv q
    exact ⟨_, .pure hd, hr⟩
  case convert s d x =>
    obtain ⟨v, hv, q⟩ := evK_ex q
    exact convert_sound hC rfl hv q
  case makeInterface t x =>
    obtain ⟨v, hv, q⟩ := evK_ex q
    obtain ⟨ti, ht, q⟩ := tyK_ex q
    split at q
    · exact q.elim
    · exact q.elim
    · rename_i n1 n2
      exact ⟨_, .pure (does_mkIface hC.ty ht (by revert n1 n2; cases ti.sh <;> simp) rfl hv), q⟩
  case makeFunc f a b =>
    split at q
    · rename_i us hu
      split at q
      · rename_i vs hv
        exact ⟨_, .pure (does_mkFunc rfl hu hv), q⟩
      · exact q.elim
    · exact q.elim
  case makeSlice t x y =>
    obtain ⟨v, hv, q⟩ := evK_ex q
    obtain ⟨u, hu, q⟩ := evK_ex q
    split at q
    · rename_i k1 n k2 c hz_
      obtain ⟨ti, ht, q⟩ := tyK_ex q
      split at q
      · rename_i eb _ ez et hsh
        obtain ⟨q1, q2, q3, q4, q5, q⟩ := q
        rw [show n = ((n.toNat : Nat) : Int) by omega] at hv
        rw [show c = ((c.toNat : Nat) : Int) by omega] at hu q4
        exact ⟨_, .nw (does_makeSlice hC.ty ht hsh q1 h.length rfl hv hu (by omega) (by rw [← Int.natCast_mul] at q4; omega) (by omega)) rd_nil, q⟩
      · exact q.elim
    · exact q.elim
  case slice t x lo hi mx =>
    obtain ⟨v, hv, q⟩ := evK_ex q
    exact slice_sound hC rfl hv q
  case fieldAddr t x f =>
    obtain ⟨v, hv, q⟩ := evK_ex q
    exact fieldAddr_sound hC rfl hv q
  case field t x f =>
    obtain ⟨v, hv, q⟩ := evK_ex q
    exact field_sound hC rfl hv q
  case indexAddr t x i =>
    obtain ⟨v, hv, q⟩ := evK_ex q
    obtain ⟨u, hu, q⟩ := evK_ex q
    exact idxAddr_sound hC rfl hv hu q
  case index t x i =>
    obtain ⟨v, hv, q⟩ := evK_ex q
    obtain ⟨u, hu, q⟩ := evK_ex q
    exact idx_sound hC rfl hv hu q
  case range t x =>
    obtain ⟨v, hv, q⟩ := evK_ex q
    split at q
    · obtain ⟨ti, ht, q⟩ := tyK_ex q
      split at q
      · rename_i hsh
        exact ⟨_, .nw (does_range hC.ty ht hsh h.length rfl hv) rd_nil, q⟩
      · exact q.elim
    · exact q.elim
  case next x b =>
    cases b with
    | false => exact q.elim
    | true =>
      obtain ⟨v, hv, q⟩ := evK_ex q
      split at q
      · obtain ⟨s, pos, hb, q1, q2⟩ := q
        by_cases hp : pos < s.size
        · exact ⟨_, ⟨does_next rfl hv hp, (fun p hp => by rw [List.mem_singleton.mp hp]; exact hb), (fun p hp => by rw [List.mem_singleton.mp hp]; exact ⟨_, List.mem_singleton.mpr rfl⟩)⟩, q1 hp⟩
        · exact ⟨_, .ld (does_nextEnd rfl hv hp) hb, q2 hp⟩
      · exact q.elim
  case extract x i =>
    obtain ⟨v, hv, q⟩ := evK_ex q
    split at q
    · obtain ⟨u, hu, q⟩ := q
      exact ⟨_, .pure (does_extract rfl hv hu), q⟩
    · exact q.elim
  case call c =>
    unfold callK at q
    split at q
    · rename_i x t
      obtain ⟨u, hu, q⟩ := evK_ex q
      obtain ⟨ti, ht, q⟩ := tyK_ex q
      split at q
      · rename_i hsh _
        exact ⟨_, .pure (does_lenS hC.ty ht hsh rfl hu), q⟩
      · rename_i hsh _
        exact ⟨_, .pure (does_lenL hC.ty ht hsh rfl hu), q⟩
      · exact q.elim
    · obtain ⟨u, hu, q⟩ := evK_ex q
      obtain ⟨v, hv, q⟩ := evK_ex q
      exact append_sound hC rfl hu hv q
    · obtain ⟨u, hu, q⟩ := evK_ex q
      obtain ⟨v, hv, q⟩ := evK_ex q
      split at q
      · exact ⟨_, .pure (does_min rfl hu hv), q⟩
      · exact q.elim
    · obtain ⟨u, hu, q⟩ := evK_ex q
      obtain ⟨v, hv, q⟩ := evK_ex q
      split at q
      · exact ⟨_, .pure (does_max rfl hu hv), q⟩
      · exact q.elim
    · split at q
      · rename_i hF
        split at q
        · rename_i hu
          exact ext_sound hC rfl hF hu q
        · exact q.elim
      · exact q.elim
    · exact q.elim
end
end Go.Den
namespace Go.Den
open Go Go.RowKit

inductive AX where
  | normal
  | exit (id : Nat)
  | ret
  | pan (v : Value)
inductive XRel (ρ : Ren) : AX → Exit → Prop
  | normal : XRel ρ .normal .normal
  | exit (id : Nat) : XRel ρ (.exit id) (.exit id)
  | ret : XRel ρ .ret .ret
  | pan (v v' : Value) : VRel ρ v v' → XRel ρ (.pan v) (.panic [{ v := v', recovered := false }])
theorem XRel.mono {ρ ρ' : Ren} (s : Sub ρ ρ') {x : AX} {y : Exit} (h : XRel ρ x y) : XRel ρ' x y := by
  cases h with
  | normal => exact .normal
  | exit id => exact .exit id
  | ret => exact .ret
  | pan v v' hv => exact .pan v v' (hv.mono s)
/-- The sketch fits the machine at a point of a function's body. -/
structure At (C : Ctx) (N : Nat) (ρ : Ren) (e : Env) (h : AHeap) (a : Act) (w : World) : Prop where
  rel : Rel C.W0 ρ h w
  env : ERel ρ e a.tmps
  size : a.tmps.size = N
  defers : a.defers = []
abbrev QA := AX → Env → AHeap → Prop
/-- What is to hold behind a piece of code, of the machine. -/
def Post (C : Ctx) (N : Nat) (ρ0 : Ren) (w0 : World) (Q : QA) : Exit → Act → World → Prop := fun x a w =>
  ∃ ρ e h y, Ext ρ0 w0 ρ w ∧ At C N ρ e h a w ∧ XRel ρ y x ∧ Q y e h
def SemC (C : Ctx) (N : Nat) (c : Code) (Q : QA) (e : Env) (h : AHeap) : Prop :=
  ∀ (ρ : Ren) (w : World) (a : Act), At C N ρ e h a w → c.wp C.P (Post C N ρ w Q) a w
theorem Post.ext {C : Ctx} {N : Nat} {ρ ρ0 : Ren} {w w0 : World} {Q : QA} (hE : Ext ρ0 w0 ρ w) {x : Exit} {a : Act} {w' : World} (h : Post C N ρ w Q x a w') : Post C N ρ0 w0 Q x a w' :=
  let ⟨ρ', e, hh, y, p, q⟩ := h
  ⟨ρ', e, hh, y, hE.trans p, q⟩
theorem Post.mono {C : Ctx} {N : Nat} {ρ : Ren} {w : World} {Q Q' : QA} (hq : ∀ x e h, Q x e h → Q' x e h) {x : Exit} {a : Act} {w' : World} (h : Post C N ρ w Q x a w') : Post C N ρ w Q' x a w' :=
  let ⟨ρ', e, hh, y, p, q, r, s⟩ := h
  ⟨ρ', e, hh, y, p, q, r, hq _ _ _ s⟩

abbrev KV := Value → AHeap → Prop
/-- What is to hold behind a call, of the machine. -/
def CPost (C : Ctx) (ρ : Ren) (w : World) (K E : KV) : Ending → World → Prop
  | .returned v', w' => ∃ ρ' v h', Ext ρ w ρ' w' ∧ Rel C.W0 ρ' h' w' ∧ VRel ρ' v v' ∧ K v h'
  | .panicked ch, w' => ∃ ρ' v v' h', ch = [{ v := v', recovered := false }] ∧ Ext ρ w ρ' w' ∧ Rel C.W0 ρ' h' w' ∧ VRel ρ' v v' ∧ E v h'
  | .outgrown, _ => False
structure Enters (P : Program) (f : FuncId) : Prop where
  ex : ∃ fn : Func, P.funcs[f]? = some fn ∧ (fn.name == "runtime.NumGoroutine") = false ∧ fn.body.isNone = false
/-- A call of the function f. -/
structure CallP (C : Ctx) (f : FuncId) (args : List Value) (h : AHeap) (K E : KV) : Prop where
  enters : Enters C.P f
  calls : ∀ (ρ : Ren) (w : World) (args' : List Value), Rel C.W0 ρ h w → LRel ρ args args' → Calls C.P f args'.toArray w (CPost C ρ w K E)
theorem CPost.mono {C : Ctx} {ρ : Ren} {w : World} {K E K' E' : KV} (hk : ∀ v h, K v h → K' v h) (he : ∀ v h, E v h → E' v h) {x : Ending} {w' : World} (h : CPost C ρ w K E x w') : CPost C ρ w K' E' x w' := by
  cases x with
  | returned v' => obtain ⟨ρ', v, h', p, q, r, s⟩ := h; exact ⟨ρ', v, h', p, q, r, hk _ _ s⟩
  | panicked ch => obtain ⟨ρ', v, v', h', o, p, q, r, s⟩ := h; exact ⟨ρ', v, v', h', o, p, q, r, he _ _ s⟩
  | outgrown => exact h
theorem CallP.mono {C : Ctx} {f : FuncId} {args : List Value} {h : AHeap} {K E K' E' : KV} (c : CallP C f args h K E) (hk : ∀ v h, K v h → K' v h) (he : ∀ v h, E v h → E' v h) : CallP C f args h K' E' :=
  ⟨c.enters, fun ρ w args' hR hL => (c.calls ρ w args' hR hL).mono fun _ _ q => q.mono hk he⟩
theorem enter_run {P : Program} {f : FuncId} (h : Enters P f) (args : Array Value) (w : World) : (callFunc f args).run P w = .ok (.enter f args) w := by
  obtain ⟨fn, h1, h2, h3⟩ := h.ex
  simp only [callFunc, Sem.run_bind, run_program, Result.andThen_ok, h1, h2, h3, Bool.false_eq_true, if_false, Sem.run_pure]

def undefV : Value := .tuple #[]
def Env.putR (e : Env) (d : Option Nat) (v : Option Value) : Env := match d with
  | some d => (d, v) :: e
  | none => e
/-- A call of a function value. -/
def callV (C : Ctx) (fv : Value) (us : List Value) (h : AHeap) (K E : KV) : Prop :=
  match fv with
  | .func (.func g) first cap => CallP C g (first.toList ++ us ++ cap.toList) h K E
  | _ => False
def applyE (h : AHeap) (f : Eff) : AHeap := match f.al with
  | none => hset h f.wr
  | some b => hset h f.wr ++ [b]
/-- Is it a call of a function with a body? -/
def isCall (C : Ctx) (c : Call) : Bool := match c.callee with
  | .value (.func f) => match C.X f with
    | some _ => false
    | none => true
  | .value _ => true
  | _ => false
def stepK (C : Ctx) (o : Oper) (e : Env) (h : AHeap) (K : Option Value → AHeap → Prop) (E : KV) : Prop :=
  match o.op with
  | .call c => bif isCall C c then (match c.callee with
      | .value f => evK e f fun fv => match evA e c.args.toList with
        | some us => callV C fv us h (fun v h' => K (some v) h') E
        | none => False
      | _ => False)
    else callK C c e h fun f => K f.v (applyE h f)
  | .panic x => evK e x fun v => match v with
    | .iface _ _ => E v h
    | _ => False
  | _ => opK C o e h fun f => K f.v (applyE h f)
def guardK (ops : List Oper) (g : Option (Nat × Bool)) (e : Env) (y n : Env → Prop) : Prop :=
  match g with
  | none => y e
  | some (j, want) => match ops[j]? with
    | some oj => match oj.dst with
      | some d => match e.get d with
        | some (.bool b) => brP b (match want with | true => y ((d, some (.bool true)) :: e) | false => n ((d, some (.bool true)) :: e)) (match want with | true => n ((d, some (.bool false)) :: e) | false => y ((d, some (.bool false)) :: e))
        | some (.tuple _) => n e
        | _ => False
      | none => False
    | none => False
def dstOk (N : Nat) : Option Nat → Bool
  | none => true
  | some d => Nat.blt d N
/-- The operations of a region, one behind the other. -/
noncomputable def wpL (C : Ctx) (N : Nat) (ops : List Oper) (K : Env → AHeap → Prop) (E : KV) (l : List Oper) : Env → AHeap → Prop :=
  List.rec (motive := fun _ => Env → AHeap → Prop) (fun e h => K e h) (fun o _ ih e h => bif dstOk N o.dst then
      guardK ops o.guard e (fun e => stepK C o e h (fun v h' => ih (e.putR o.dst v) h') E) (fun e => ih (e.putR o.dst (some undefV)) h)
    else False) l
theorem wpL_nil {C : Ctx} {N : Nat} {ops : List Oper} {K : Env → AHeap → Prop} {E : KV} {e : Env} {h : AHeap} : wpL C N ops K E [] e h = K e h := rfl
theorem wpL_cons {C : Ctx} {N : Nat} {ops : List Oper} {K : Env → AHeap → Prop} {E : KV} {o : Oper} {r : List Oper} {e : Env} {h : AHeap} : wpL C N ops K E (o :: r) e h = (bif dstOk N o.dst then
      guardK ops o.guard e (fun e => stepK C o e h (fun v h' => wpL C N ops K E r (e.putR o.dst v) h') E) (fun e => wpL C N ops K E r (e.putR o.dst (some undefV)) h)
    else False) := rfl

section
variable {C : Ctx} {N : Nat}
theorem hset_append (wr : List (Nat × ABlk)) : ∀ (h l : AHeap), (∀ p ∈ wr, p.1 < h.length) → hset (h ++ l) wr = hset h wr ++ l := by
  induction wr with
  | nil => intro h l _; rfl
  | cons p r ih =>
    intro h l hp
    obtain ⟨i, b⟩ := p
    have hi : i < h.length := hp (i, b) (List.mem_cons_self ..)
    simp only [hset]
    rw [List.set_append_left _ _ hi]
    exact ih _ _ (fun q hq => by rw [List.length_set]; exact hp q (List.mem_cons_of_mem _ hq))
theorem hset_length (wr : List (Nat × ABlk)) : ∀ h : AHeap, (hset h wr).length = h.length := by
  induction wr with
  | nil => intro h; rfl
  | cons p r ih => intro h; obtain ⟨i, b⟩ := p; simp only [hset]; rw [ih, List.length_set]
/-- An operation, done. -/
theorem Does.wp {o : Oper} {e : Env} {h : AHeap} {f : Eff} (D : Does C.P C.W0 o e h f) {ρ : Ren} {w : World} {a : Act} (hA : At C N ρ e h a w) {next : Act → World → Prop} {Q : Exit → Act → World → Prop}
    (hd : dstOk N o.dst = true) (hn : ∀ (ρ' : Ren) (a' : Act) (w' : World), Ext ρ w ρ' w' → At C N ρ' (e.putR o.dst f.v) (applyE h f) a' w' → next a' w') : o.wp C.P a w next Q := by
  have hwr : ∀ p ∈ f.wr, p.1 < h.length := fun p hp => by
    obtain ⟨b, hb⟩ := D.wr p hp
    exact (List.getElem?_eq_some_iff.mp (D.rd _ hb)).1
  have fin : ∀ (v' : Value) (ρ' : Ren) (w' : World), (∀ u, f.v = some u → VRel ρ' u v') → Ext ρ w ρ' w' → Rel C.W0 ρ' (applyE h f) w' → next (a.put o.dst v') w' := by
    intro v' ρ' w' hv hE hR
    refine hn ρ' _ w' hE ⟨hR, ?_, ?_, ?_⟩
    · cases hdst : o.dst with
      | none => rw [show a.put none v' = a from rfl]; exact hA.env.mono hE.sub
      | some d =>
        have hdN : d < a.tmps.size := by
          rw [hA.size]; rw [hdst] at hd
          exact Nat.le_of_ble_eq_true (show Nat.ble (d + 1) N = true from hd)
        show ERel ρ' ((d, f.v) :: e) (a.tmps.setIfInBounds d v')
        cases hfv : f.v with
        | none => exact (hA.env.mono hE.sub).drop v'
        | some u => exact (hA.env.mono hE.sub).put hdN (hv u hfv)
    · cases o.dst with
      | none => exact hA.size
      | some d => show (a.tmps.setIfInBounds d v').size = N; rw [Array.size_setIfInBounds]; exact hA.size
    · cases o.dst <;> exact hA.defers
  cases hal : f.al with
  | none =>
    have hs := D.sem
    rw [hal] at hs
    refine hs ρ h w a hA.rel (hA.env.opd o) D.rd (fun p hp => by cases hp) next Q fun v' ρ' w' hv hE hR => fin v' ρ' w' hv hE ?_
    have : applyE h f = hset h f.wr := by unfold applyE; rw [hal]
    rw [this]; exact hR
  | some b =>
    have hs := D.sem
    rw [hal] at hs
    have hR0 := rel_free hA.rel 1
    have hrd : ∀ p ∈ f.rd, (h ++ List.replicate 1 .free)[p.1]? = some p.2 := fun p hp => by
      have := D.rd p hp
      rw [List.getElem?_append_left (List.getElem?_eq_some_iff.mp this).1]; exact this
    refine hs ρ _ w a hR0 (hA.env.opd o) hrd (fun p hp => by cases hp; simp) next Q fun v' ρ' w' hv hE hR => fin v' ρ' w' hv hE ?_
    have : applyE h f = hset h f.wr ++ [b] := by unfold applyE; rw [hal]
    rw [this]
    rw [hset_append _ _ _ hwr] at hR
    simp only [Option.map_some, hal] at hR
    have e1 : (hset h f.wr ++ List.replicate 1 ABlk.free).set h.length b = hset h f.wr ++ [b] := by
      rw [List.set_append_right _ _ (by rw [hset_length]; exact Nat.le_refl _), hset_length, Nat.sub_self]; rfl
    rw [show Den.hal (hset h f.wr ++ List.replicate 1 ABlk.free) (some (h.length, b)) = (hset h f.wr ++ List.replicate 1 ABlk.free).set h.length b from rfl, e1] at hR
    exact hR
end
end Go.Den
namespace Go.Den
open Go Go.RowKit
section
variable {C : Ctx} (hC : C.Ok) {N : Nat}
theorem func_inv {ρ : Ren} {f : Fn} {a b : Array Value} {v' : Value} (h : VRel ρ (.func f a b) v') : ∃ a' b', v' = .func f a' b' ∧ LRel ρ a.toList a'.toList ∧ LRel ρ b.toList b'.toList := by
  cases h with
  | func _ _ a' _ b' h1 h2 h3 h4 => exact ⟨a', b', rfl, ⟨by simpa using h1, fun j u u' p q => h2 j u u' (by simpa using p) (by simpa using q)⟩, ⟨by simpa using h3, fun j u u' p q => h4 j u u' (by simpa using p) (by simpa using q)⟩⟩
theorem At.put {ρ : Ren} {e : Env} {h : AHeap} {a : Act} {w : World} (hA : At C N ρ e h a w) {ρ' : Ren} {w' : World} {h' : AHeap} (hE : Ext ρ w ρ' w') (hR : Rel C.W0 ρ' h' w') {d : Option Nat} (hd : dstOk N d = true) {v v' : Value} (hv : VRel ρ' v v') :
    At C N ρ' (e.putR d (some v)) h' (a.put d v') w' := by
  refine ⟨hR, ?_, ?_, ?_⟩
  · cases d with
    | none => exact hA.env.mono hE.sub
    | some d =>
      have hdN : d < a.tmps.size := by rw [hA.size]; exact Nat.le_of_ble_eq_true (show Nat.ble (d + 1) N = true from hd)
      exact (hA.env.mono hE.sub).put hdN hv
  · cases d with
    | none => exact hA.size
    | some d => show (a.tmps.setIfInBounds d v').size = N; rw [Array.size_setIfInBounds]; exact hA.size
  · cases d <;> exact hA.defers
/-- A call of a function with a body, in the middle of a region. -/
theorem call_wp {o : Oper} {c : Call} {f : Operand} (ho : o.op = .call c) (hc : c.callee = .value f) {e : Env} {h : AHeap} {fv : Value} {us : List Value} (hf : evO e f = some fv) (hu : evA e c.args.toList = some us) {K : Option Value → AHeap → Prop} {E : KV}
    (q : callV C fv us h (fun v h' => K (some v) h') E) {ρ : Ren} {w : World} {a : Act} (hA : At C N ρ e h a w) (hd : dstOk N o.dst = true) {next : Act → World → Prop} {Q : Exit → Act → World → Prop}
    (hn : ∀ (v : Value) (h' : AHeap) (ρ' : Ren) (a' : Act) (w' : World), K (some v) h' → Ext ρ w ρ' w' → At C N ρ' (e.putR o.dst (some v)) h' a' w' → next a' w')
    (hp : ∀ (v v' : Value) (h' : AHeap) (ρ' : Ren) (w' : World), E v h' → Ext ρ w ρ' w' → At C N ρ' e h' a w' → VRel ρ' v v' → Q (.panic [{ v := v', recovered := false }]) a w') : o.wp C.P a w next Q := by
  unfold callV at q
  split at q
  · rename_i g first cap
    have hfr := evO_rel hA.env hf
    obtain ⟨first', cap', e1, L1, L2⟩ := func_inv hfr
    have hL := evA_rel (ρ := ρ) (a := a) c.args.toList us (fun x _ v hv => evO_rel hA.env hv) hu
    have hex : (execOp a.eval o).run C.P w = .ok (.enter g ((first'.toList ++ c.args.toList.map a.eval ++ cap'.toList).toArray)) w := by
      have hargs : first' ++ c.args.map a.eval ++ cap' = (first'.toList ++ c.args.toList.map a.eval ++ cap'.toList).toArray := by
        apply Array.ext'; simp
      simp only [execOp, ho, resolve, hc, e1, Deferred.ofValue, Sem.run_bind, Sem.run_pure, Result.andThen_ok, invoke, hargs]
      exact enter_run q.enters _ w
    unfold Oper.wp
    rw [hex, Oper.upon_enter]
    refine (q.calls ρ w _ hA.rel ((L1.app hL).app L2)).mono fun en w' hp' => ?_
    cases en with
    | returned v' =>
      obtain ⟨ρ', v, h', p1, p2, p3, p4⟩ := hp'
      exact hn v h' ρ' _ w' p4 p1 (hA.put p1 p2 hd p3)
    | panicked ch =>
      obtain ⟨ρ', v, v', h', rfl, p1, p2, p3, p4⟩ := hp'
      exact hp v v' h' ρ' w' p4 p1 ⟨p2, hA.env.mono p1.sub, hA.size, hA.defers⟩ p3
    | outgrown => exact hp'.elim
  · exact q.elim
include hC
theorem step_wp {o : Oper} {e : Env} {h : AHeap} {K : Option Value → AHeap → Prop} {E : KV} (q : stepK C o e h K E) {ρ : Ren} {w : World} {a : Act} (hA : At C N ρ e h a w) (hd : dstOk N o.dst = true) {next : Act → World → Prop} {Q : Exit → Act → World → Prop}
    (hn : ∀ (v : Option Value) (h' : AHeap) (ρ' : Ren) (a' : Act) (w' : World), K v h' → Ext ρ w ρ' w' → At C N ρ' (e.putR o.dst v) h' a' w' → next a' w')
    (hp : ∀ (v v' : Value) (h' : AHeap) (ρ' : Ren) (w' : World), E v h' → Ext ρ w ρ' w' → At C N ρ' e h' a w' → VRel ρ' v v' → Q (.panic [{ v := v', recovered := false }]) a w') : o.wp C.P a w next Q := by
  have plain : ∀ {K' : Eff → Prop}, opK C o e h K' → (∀ f, K' f → K f.v (applyE h f)) → o.wp C.P a w next Q := by
    intro K' q hk
    obtain ⟨f, D, hf⟩ := opK_sound hC q
    exact D.wp hA hd fun ρ' a' w' hE hA' => hn _ _ ρ' a' w' (hk f hf) hE hA'
  unfold stepK at q
  split at q
  · rename_i c ho
    cases hic : isCall C c with
    | false =>
      rw [hic] at q
      exact plain (K' := fun f => K f.v (applyE h f)) (by unfold opK; rw [ho]; exact q) fun _ hk => hk
    | true =>
      rw [hic] at q
      simp only [cond_true] at q
      split at q
      · rename_i f hcf
        obtain ⟨fv, hf, q⟩ := evK_ex q
        split at q
        · rename_i us hu
          exact call_wp ho hcf hf hu q hA hd (fun v => hn (some v)) hp
        · exact q.elim
      · exact q.elim
  · rename_i x ho
    obtain ⟨v, hv, q⟩ := evK_ex q
    split at q
    · rename_i t u
      have hr := evO_rel hA.env hv
      obtain ⟨v', hv'⟩ : ∃ v', a.eval x = v' := ⟨_, rfl⟩
      rw [hv'] at hr
      have hex : (execOp a.eval o).run C.P w = .halt (.panic v') w := by
        cases hr with
        | iface _ _ u' hu => simp [execOp, ho, hv', Instr.panic]
      unfold Oper.wp
      rw [hex, Oper.upon_panic]
      exact hp _ v' h ρ w q (Ext.refl ρ w) hA hr
    · exact q.elim
  · exact plain q fun _ hk => hk
theorem guard_wp {ops : List Oper} {o : Oper} {e : Env} {h : AHeap} {y n : Env → Prop} {ρ : Ren} {w : World} {a : Act} (q : guardK ops o.guard e y n) (hA : At C N ρ e h a w) :
    (∃ e', y e' ∧ At C N ρ e' h a w ∧ Region.wanted o (yielded ops.toArray a.tmps) = true) ∨ (∃ e', n e' ∧ At C N ρ e' h a w ∧ Region.wanted o (yielded ops.toArray a.tmps) = false) := by
  unfold guardK at q
  split at q
  · rename_i hg
    exact .inl ⟨e, q, hA, by simp [Region.wanted, hg]⟩
  · rename_i j want hg
    split at q
    · rename_i oj hj
      split at q
      · rename_i d hdst
        have hy : yielded ops.toArray a.tmps j = match a.tmps[d]? with | some (.bool b) => some b | _ => none := by
          have hj' : ops.toArray[j]? = some oj := by simpa using hj
          simp [yielded, hj', hdst]
          rfl
        split at q
        · rename_i b hget
          obtain ⟨v', p1, p2⟩ := hA.env d _ hget
          have hv := (AF.bool b).eq p2
          subst hv
          rw [p1] at hy
          have hA' : At C N ρ ((d, some (.bool b)) :: e) h a w := ⟨hA.rel, fun t u ht => by
            rw [Env.get_cons] at ht
            by_cases hdt : d = t
            · subst hdt; rw [if_pos rfl] at ht; cases ht; exact ⟨_, p1, p2⟩
            · rw [if_neg hdt] at ht; exact hA.env t u ht, hA.size, hA.defers⟩
          rcases brP.cases q with ⟨rfl, q⟩ | ⟨rfl, q⟩ <;> cases want
          · exact .inr ⟨_, q, hA', by simp [Region.wanted, hg, hy]⟩
          · exact .inl ⟨_, q, hA', by simp [Region.wanted, hg, hy]⟩
          · exact .inl ⟨_, q, hA', by simp [Region.wanted, hg, hy]⟩
          · exact .inr ⟨_, q, hA', by simp [Region.wanted, hg, hy]⟩
        · rename_i vs hget
          obtain ⟨v', p1, p2⟩ := hA.env d _ hget
          obtain ⟨ds, rfl, _⟩ := tuple_inv p2
          rw [p1] at hy
          exact .inr ⟨_, q, hA, by simp [Region.wanted, hg, hy]⟩
        · exact q.elim
      · exact q.elim
    · exact q.elim
theorem wpL_sound {ops : List Oper} {K : Env → AHeap → Prop} {E : KV} {ρ0 : Ren} {w0 : World} {Q : Exit → Act → World → Prop}
    (hn : ∀ (e : Env) (h : AHeap) (ρ : Ren) (a : Act) (w : World), K e h → Ext ρ0 w0 ρ w → At C N ρ e h a w → Q .normal a w)
    (hp : ∀ (v v' : Value) (h : AHeap) (ρ : Ren) (e : Env) (a : Act) (w : World), E v h → Ext ρ0 w0 ρ w → At C N ρ e h a w → VRel ρ v v' → Q (.panic [{ v := v', recovered := false }]) a w) :
    ∀ (r : List Oper) (e : Env) (h : AHeap) (ρ : Ren) (a : Act) (w : World), wpL C N ops K E r e h → Ext ρ0 w0 ρ w → At C N ρ e h a w → wpList C.P ops.toArray Q r a w := by
  intro r
  induction r with
  | nil => intro e h ρ a w q hE hA; exact hn e h ρ a w q hE hA
  | cons o r ih =>
    intro e h ρ a w q hE hA
    rw [wpL_cons] at q
    cases hd : dstOk N o.dst with
    | false => rw [hd] at q; exact q.elim
    | true =>
      rw [hd] at q
      simp only [cond_true] at q
      unfold wpList
      rcases guard_wp hC q hA with ⟨e', q, hA', hw⟩ | ⟨e', q, hA', hw⟩
      · rw [if_pos hw]
        refine .inl (step_wp hC q hA' hd (fun v h' ρ' a' w' hk hE' hA'' => ih _ _ ρ' a' w' hk (hE.trans hE') hA'') ?_)
        intro v v' h' ρ' w' hk hE' hA'' hv
        exact hp v v' h' ρ' e' a w' hk (hE.trans hE') hA'' hv
      · rw [hw]
        simp only [Bool.false_eq_true, if_false]
        refine ih _ _ ρ _ w q hE ?_
        exact hA'.put (Ext.refl ρ w) hA'.rel hd ((AF.tuple (by intro v hv; simp at hv)).rel ρ)
end
end Go.Den
namespace Go.Den
open Go Go.RowKit

def thenA (n : Env → AHeap → Prop) (Q : QA) : QA := fun x e h => match x with
  | .normal => n e h
  | .exit id => Q (.exit id) e h
  | .ret => Q .ret e h
  | .pan v => Q (.pan v) e h
def blockA (id : Nat) (Q : QA) : QA := fun x e h => match x with
  | .normal => Q .normal e h
  | .exit i => match Nat.beq i id with
    | true => Q .normal e h
    | false => Q (.exit i) e h
  | .ret => Q .ret e h
  | .pan v => Q (.pan v) e h
/-- Behind a region: what is known may be told anew, or in part. -/
inductive Here (P : Env → AHeap → Prop) (e : Env) (h : AHeap) : Prop
  | intro (e' : Env) : (∀ t v, e'.get t = some v → e.get t = some v) → P e' h → Here P e h
theorem Here.mk {P : Env → AHeap → Prop} {e : Env} {h : AHeap} (q : P e h) : Here P e h := ⟨e, fun _ _ z => z, q⟩
theorem Here.norm {P : Env → AHeap → Prop} {e e' : Env} {h h' : AHeap} (he : e = e') (hh : h = h') (q : P e' h') : Here P e h := by subst he; subst hh; exact .mk q
/-- What is to be shown of a piece of code. -/
noncomputable def wpC (C : Ctx) (N : Nat) (c : Code) : QA → Env → AHeap → Prop :=
  Code.rec (motive := fun _ => QA → Env → AHeap → Prop)
    (fun Q e h => Q .normal e h)
    (fun id ops draw Q e h => match draw with
      | false => wpL C N ops.toList (fun e h => Here (Q .normal) e h) (fun v h => Q (.pan v) [] h) ops.toList e h
      | true => SemC C N (.region id ops true) Q e h)
    (fun _ _ iha ihb Q e h => iha (thenA (ihb Q) Q) e h)
    (fun c _ _ iha ihb Q e h => evK e c fun v => match v with
      | .bool t => brP t (iha Q e h) (ihb Q e h)
      | _ => False)
    (fun id _ ih Q e h => ih (blockA id Q) e h)
    (fun c _ Q e h => SemC C N (.loop c) Q e h)
    (fun _ _ _ _ _ _ _ _ _ => False)
    (fun id Q e h => Q (.exit id) e h)
    (fun _ _ _ _ _ => False)
    (fun _ Q e h => Q .normal e h)
    (fun _ _ _ _ => False)
    (fun Q e h => Q .ret e h)
    (fun _ _ _ _ => False) c
section
variable {C : Ctx} (hC : C.Ok) {N : Nat}
include hC
theorem wpC_sound : ∀ (c : Code) (Q : QA) (e : Env) (h : AHeap), wpC C N c Q e h → SemC C N c Q e h := by
  intro c
  induction c with
  | skip => intro Q e h q ρ w a hA; exact wp_skip ⟨ρ, e, h, .normal, Ext.refl ρ w, hA, .normal, q⟩
  | label l => intro Q e h q ρ w a hA; exact wp_label ⟨ρ, e, h, .normal, Ext.refl ρ w, hA, .normal, q⟩
  | seq x y ihx ihy =>
    intro Q e h q ρ w a hA
    refine wp_seq (wp_mono (ihx _ e h q ρ w a hA) ?_)
    rintro x a' w' ⟨ρ', e', h', ax, hE, hA', hX, q'⟩
    cases hX with
    | normal => exact wp_mono (ihy Q e' h' q' ρ' w' a' hA') fun _ _ _ z => z.ext hE
    | exit id => exact ⟨ρ', e', h', _, hE, hA', .exit id, q'⟩
    | ret => exact ⟨ρ', e', h', _, hE, hA', .ret, q'⟩
    | pan v v' hv => exact ⟨ρ', e', h', _, hE, hA', .pan v v' hv, q'⟩
  | cond c x y ihx ihy =>
    intro Q e h q ρ w a hA
    obtain ⟨v, hv, q⟩ := evK_ex q
    split at q
    · rename_i t
      have hb := (AF.bool t).eq (evO_rel hA.env hv)
      refine wp_cond hb ?_
      rcases brP.cases q with ⟨rfl, q⟩ | ⟨rfl, q⟩
      · exact ihx Q e h q ρ w a hA
      · exact ihy Q e h q ρ w a hA
    · exact q.elim
  | block id c ih =>
    intro Q e h q ρ w a hA
    refine wp_block (wp_mono (ih _ e h q ρ w a hA) ?_)
    rintro x a' w' ⟨ρ', e', h', ax, hE, hA', hX, q'⟩
    cases hX with
    | normal => exact ⟨ρ', e', h', .normal, hE, hA', .normal, q'⟩
    | exit i =>
      show (if i = id then _ else _)
      simp only [blockA] at q'
      cases hb : Nat.beq i id with
      | true =>
        rw [hb] at q'
        rw [if_pos (Nat.eq_of_beq_eq_true hb)]
        exact ⟨ρ', e', h', .normal, hE, hA', .normal, q'⟩
      | false =>
        rw [hb] at q'
        rw [if_neg (Nat.ne_of_beq_eq_false hb)]
        exact ⟨ρ', e', h', _, hE, hA', .exit i, q'⟩
    | ret => exact ⟨ρ', e', h', _, hE, hA', .ret, q'⟩
    | pan v v' hv => exact ⟨ρ', e', h', _, hE, hA', .pan v v' hv, q'⟩
  | loop c ih => intro Q e h q; exact q
  | exit id => intro Q e h q ρ w a hA; exact wp_exit ⟨ρ, e, h, _, Ext.refl ρ w, hA, .exit id, q⟩
  | ret => intro Q e h q ρ w a hA; exact wp_ret ⟨ρ, e, h, _, Ext.refl ρ w, hA, .ret, q⟩
  | region id ops draw =>
    intro Q e h q
    cases draw with
    | true => exact q
    | false =>
      intro ρ w a hA
      refine wp_region_list ?_
      have := wpL_sound hC (ops := ops.toList) (ρ0 := ρ) (w0 := w) (Q := Post C N ρ w Q)
        (fun e h ρ' a w' hk hE hA => by
          obtain ⟨e', hs, hk⟩ := hk
          exact ⟨ρ', e', h, .normal, hE, ⟨hA.rel, fun t v k => hA.env t v (hs t v k), hA.size, hA.defers⟩, .normal, hk⟩)
        (fun v v' h ρ' e a w' hk hE hA hv => ⟨ρ', [], h, .pan v, hE, ⟨hA.rel, (fun t u ht => by cases ht), hA.size, hA.defers⟩, .pan v v' hv, hk⟩)
        ops.toList e h ρ a w q (Ext.refl ρ w) hA
      rwa [Array.toArray_toList] at this
  | _ => intro Q e h q; exact q.elim
/-- A loop: what holds at the head of each round, with a number that sinks. -/
theorem loop_intro {α : Type} {c : Code} {Q : QA} {e : Env} {h : AHeap} (inv : α → Env → AHeap → Prop) (μ : α → Nat) (a0 : α) (h0 : inv a0 e h)
    (round : ∀ a e h, inv a e h → wpC C N c (thenA (fun e' h' => ∃ a', μ a' < μ a ∧ inv a' e' h') Q) e h) : SemC C N (.loop c) Q e h := by
  intro ρ w a hA
  refine wp_loop_ghost (fun n a' w' => ∃ α ρ' e' h', μ α = n ∧ inv α e' h' ∧ Ext ρ w ρ' w' ∧ At C N ρ' e' h' a' w') (μ a0) ⟨a0, ρ, e, h, rfl, h0, Ext.refl ρ w, hA⟩ ?_
  rintro n a' w' ⟨α, ρ', e', h', rfl, hi, hE, hA'⟩
  refine wp_mono (wpC_sound hC c _ e' h' (round α e' h' hi) ρ' w' a' hA') ?_
  rintro x a2 w2 ⟨ρ2, e2, h2, ax, hE2, hA2, hX, q'⟩
  cases hX with
  | normal =>
    obtain ⟨α', hlt, hi'⟩ := q'
    exact ⟨μ α', hlt, α', ρ2, e2, h2, rfl, hi', hE.trans hE2, hA2⟩
  | exit id => exact ⟨ρ2, e2, h2, _, hE.trans hE2, hA2, .exit id, q'⟩
  | ret => exact ⟨ρ2, e2, h2, _, hE.trans hE2, hA2, .ret, q'⟩
  | pan v v' hv => exact ⟨ρ2, e2, h2, _, hE.trans hE2, hA2, .pan v v' hv, q'⟩
/-- Fewer temporaries: what the sketch need not know. -/
theorem At.sub {ρ : Ren} {e e' : Env} {h : AHeap} {a : Act} {w : World} (hA : At C N ρ e h a w) (hs : ∀ t v, e'.get t = some v → e.get t = some v) : At C N ρ e' h a w :=
  ⟨hA.rel, fun t v k => hA.env t v (hs t v k), hA.size, hA.defers⟩
theorem SemC.sub {c : Code} {Q : QA} {e e' : Env} {h : AHeap} (hs : ∀ t v, e'.get t = some v → e.get t = some v) (q : SemC C N c Q e' h) : SemC C N c Q e h :=
  fun ρ w a hA => q ρ w a (hA.sub hC hs)
end

/-! ### functions -/
def argEnv : Nat → List Value → Env
  | _, [] => []
  | k, v :: r => (k, some v) :: argEnv (k + 1) r
def resK (T : Tys) : List ResultVar → Env → AHeap → (List Value → Prop) → Prop
  | [], _, _, K => K []
  | .tmp t :: r, e, h, K => match e.get t with
    | some v => resK T r e h fun vs => K (v :: vs)
    | none => False
  | .cell a t :: r, e, h, K => match e.get a with
    | some p => loadK T t p h fun f => match f.v with
      | some v => resK T r e h fun vs => K (v :: vs)
      | none => False
    | none => False
def resM (tmps : Array Value) : ResultVar → Sem Value
  | .tmp t => pure (tmps.getD t undef)
  | .cell a t => do loadVar t (← asAddr (tmps.getD a undef))
def retV : List Value → Value
  | [v] => v
  | vs => .tuple vs.toArray
def retQ (C : Ctx) (fn : Func) (K E : KV) : QA := fun x e h => match x with
  | .normal => resK C.T fn.results.toList e h fun vs => K (retV vs) h
  | .ret => resK C.T fn.results.toList e h fun vs => K (retV vs) h
  | .pan v => E v h
  | .exit _ => False
section
variable {C : Ctx} (hC : C.Ok)
theorem argEnv_get : ∀ (args : List Value) (k t : Nat) (v : Value), (argEnv k args).get t = some v → k ≤ t ∧ args[t - k]? = some v := by
  intro args
  induction args with
  | nil => intro k t v h; cases h
  | cons a r ih =>
    intro k t v h
    rw [argEnv, Env.get_cons] at h
    by_cases hk : k = t
    · subst hk; rw [if_pos rfl] at h; cases h; simp
    · rw [if_neg hk] at h
      obtain ⟨h1, h2⟩ := ih (k + 1) t v h
      refine ⟨by omega, ?_⟩
      rw [show t - k = (t - (k + 1)) + 1 by omega, List.getElem?_cons_succ]; exact h2
theorem loadK_val {T : Tys} {t : TypeId} {p : Value} {h : AHeap} {K : Eff → Prop} (q : loadK T t p h K) : ∃ i off ti cs sz wr sp ty v rd wr' al, p = .pointer (some ⟨i, off, none⟩) ∧ T.get t = some ti ∧ h[i]? = some (.cells cs sz wr sp ty) ∧
    (if ti.agg then off + ti.size ≤ cs.length ∧ v = .agg ((cs.drop off).take ti.size).toArray else cs[off]? = some v) ∧ K ⟨some v, rd, wr', al⟩ := by
  unfold loadK at q
  split at q
  · rename_i i off
    obtain ⟨ti, ht, cs, sz, wr, sp, ty, hb, q⟩ := tyK_ex q
    cases ha : ti.agg with
    | true =>
      rw [ha] at q
      exact ⟨i, off, ti, cs, sz, wr, sp, ty, _, _, _, _, rfl, ht, hb, (by rw [ha, if_pos rfl]; exact ⟨q.1, rfl⟩), q.2⟩
    | false =>
      rw [ha] at q
      obtain ⟨v, hv, q⟩ := q
      exact ⟨i, off, ti, cs, sz, wr, sp, ty, v, _, _, _, rfl, ht, hb, (by rw [ha]; simpa using hv), q⟩
  · exact q.elim
include hC
theorem res_run {ρ : Ren} {h : AHeap} {w : World} {tmps : Array Value} {e : Env} (hR : Rel C.W0 ρ h w) (hE : ERel ρ e tmps) : ∀ (rs : List ResultVar) (K : List Value → Prop), resK C.T rs e h K →
    ∃ vs vs', K vs ∧ LRel ρ vs vs' ∧ (rs.mapM (resM tmps)).run C.P w = Result.ok vs' w := by
  intro rs
  induction rs with
  | nil => intro K q; exact ⟨[], [], q, .nil ρ, by simp⟩
  | cons r rs ih =>
    intro K q
    cases r with
    | tmp t =>
      simp only [resK] at q
      split at q
      · rename_i v hv
        obtain ⟨vs, vs', k1, k2, k3⟩ := ih _ q
        obtain ⟨v', p1, p2⟩ := hE t v hv
        refine ⟨v :: vs, v' :: vs', k1, .cons p2 k2, ?_⟩
        rw [List.mapM_cons]
        have hg : tmps.getD t undef = v' := by rw [Array.getD_eq_getD_getElem?, p1]; rfl
        simp only [resM, Sem.run_bind, Sem.run_pure, Result.andThen_ok, k3, hg]
      · exact q.elim
    | cell a t =>
      simp only [resK] at q
      split at q
      · rename_i p hp
        obtain ⟨i, off, ti, cs, sz, wr, sp, ty, v, rd, wr', al, rfl, ht, hb, hv, q⟩ := loadK_val q
        simp only at q
        obtain ⟨vs, vs', k1, k2, k3⟩ := ih _ q
        obtain ⟨p', p1, p2⟩ := hE a _ hp
        obtain ⟨l, hl, rfl⟩ := ptr_inv p2
        obtain ⟨v', q1, q2⟩ := loadVar_run hC.ty ht (rd_blk hR hl hb) hv
        refine ⟨v :: vs, v' :: vs', k1, .cons q1 k2, ?_⟩
        rw [List.mapM_cons]
        have hg : tmps.getD a undef = .pointer (some ⟨l.blk, l.off + off, none⟩) := by rw [Array.getD_eq_getD_getElem?, p1]; rfl
        simp only [resM, Sem.run_bind, Sem.run_pure, Result.andThen_ok, hg, asAddr, q2, k3]
      · exact q.elim
/-- A function, by its body. -/
theorem CallP.of_body {f : FuncId} {fn : Func} {c : Code} (hf : C.P.funcs[f]? = some fn) (hb : fn.body = some c) (hnm : (fn.name == "runtime.NumGoroutine") = false) {args : List Value} {h : AHeap} {K E : KV} (hlen : Nat.ble args.length fn.ntmps = true)
    (q : wpC C fn.ntmps c (retQ C fn K E) (argEnv 0 args) h) : CallP C f args h K E := by
  refine ⟨⟨fn, hf, hnm, by rw [hb]; rfl⟩, fun ρ w args' hR hL => ?_⟩
  have hle := Nat.le_of_ble_eq_true hlen
  have hl' : args'.length = args.length := hL.1.symm
  refine calls_of_wp hf hb (wp_mono (wpC_sound hC c _ _ _ q ρ w _ ⟨hR, ?_, ?_, rfl⟩) ?_)
  · intro t v ht
    obtain ⟨_, h2⟩ := argEnv_get args 0 t v ht
    rw [Nat.sub_zero] at h2
    have hlt : t < args'.length := by rw [hl']; exact (List.getElem?_eq_some_iff.mp h2).1
    refine ⟨args'[t], ?_, hL.2 t v _ h2 (by simp [hlt])⟩
    show (args'.toArray ++ Array.replicate (fn.ntmps - args'.toArray.size) undef)[t]? = _
    rw [Array.getElem?_append_left (by simpa using hlt)]
    simp [hlt]
  · show (args'.toArray ++ Array.replicate (fn.ntmps - args'.toArray.size) undef).size = fn.ntmps
    simp only [Array.size_append, List.size_toArray, Array.size_replicate]
    omega
  · rintro x a' w' ⟨ρ', e', h', ax, hE, hA, hX, q'⟩
    have fin : resK C.T fn.results.toList e' h' (fun vs => K (retV vs) h') → a'.defers = [] ∧ ∃ v, (results fn a'.tmps).run C.P w' = .ok v w' ∧ CPost C ρ w K E (.returned v) w' := by
      intro q'
      obtain ⟨vs, vs', k1, k2, k3⟩ := res_run hC hA.rel hA.env _ _ q'
      have hrun : (results fn a'.tmps).run C.P w' = .ok (retV vs') w' := by
        have hres : results fn a'.tmps = (fn.results.mapM (resM a'.tmps)).bind fun vs => pure (if h : vs.size = 1 then vs[0] else .tuple vs) := by
          unfold results
          show Sem.bind _ _ = Sem.bind _ _
          congr 1
        rw [hres, show ∀ (x : Sem (Array Value)) (f : Array Value → Sem Value), x.bind f = x >>= f from fun _ _ => rfl]
        rw [Array.mapM_eq_mapM_toList]
        simp only [Sem.run_bind, Sem.run_map]
        rw [k3]
        simp only [Result.andThen_ok, Sem.run_pure]
        congr 1
        cases vs' with
        | nil => rfl
        | cons a r => cases r with
          | nil => rfl
          | cons b r => rfl
      refine ⟨hA.defers, _, hrun, ρ', retV vs, h', hE, hA.rel, ?_, k1⟩
      have hlen2 := k2.1
      have htup : VRel ρ' (.tuple vs.toArray) (.tuple vs'.toArray) := .tuple _ _ k2.arrs.1 k2.arrs.2
      cases vs with
      | nil => cases vs' with
        | nil => exact htup
        | cons => cases hlen2
      | cons a r => cases vs' with
        | nil => cases hlen2
        | cons a' r' => cases r with
          | nil => cases r' with
            | nil => exact k2.2 0 a a' rfl rfl
            | cons => simp at hlen2
          | cons b r => cases r' with
            | nil => simp at hlen2
            | cons b' r' => exact htup
    cases hX with
    | normal => exact fin q'
    | ret => exact fin q'
    | exit id => exact q'.elim
    | pan v v' hv => exact ⟨hA.defers, ρ', v, v', h', rfl, hE, hA.rel, hv, q'⟩
end
end Go.Den
namespace Go.Den
open Go Go.RowKit

/-! ### calls: what they leave, what they are given -/
section
variable {C : Ctx}
/-- A function that looks at no memory and leaves none, by what it answers. -/
def PureF (C : Ctx) (f : FuncId) (args : List Value) (v : Value) : Prop := (∀ a ∈ args, AF a) ∧ AF v ∧ CallP C f args [] (fun u _ => u = v) (fun _ _ => False)
def ren0 : Ren := fun _ => none
theorem rel_nil {W0 w : World} (h : Below W0.heap.size W0 w) : Rel W0 ren0 [] w :=
  ⟨(fun _ _ _ h => by cases h), (fun _ _ h => by cases h), (fun _ _ _ _ _ _ h => by cases h), h, (fun _ _ h => by cases h), (fun _ _ h => by cases h)⟩
theorem lrel_af {ρ : Ren} {us ds : List Value} (h : LRel ρ us ds) (ha : ∀ a ∈ us, AF a) : ds = us := by
  apply List.ext_getElem?
  intro j
  rcases Nat.lt_or_ge j us.length with hj | hj
  · have hj' : j < ds.length := by rw [← h.1]; exact hj
    have p1 : us[j]? = some us[j] := by simp [hj]
    have p2 : ds[j]? = some ds[j] := by simp [hj']
    rw [p1, p2, (ha us[j] (List.getElem_mem hj)).eq (h.2 j _ _ p1 p2)]
  · rw [List.getElem?_eq_none hj, List.getElem?_eq_none (by rw [← h.1]; exact hj)]
theorem lrel_of_af {ρ : Ren} {us : List Value} (ha : ∀ a ∈ us, AF a) : LRel ρ us us :=
  ⟨rfl, fun j u u' p q => by rw [p] at q; cases q; exact (ha u (List.mem_of_getElem? p)).rel ρ⟩
/-- The world may turn where the sketch does not look. -/
theorem Rel.frame {W0 : World} {ρ σ : Ren} {h : AHeap} {w w' : World} (hR : Rel W0 ρ h w) (hE : Ext ren0 w σ w') : Rel W0 ρ h w' ∧ Ext ρ w ρ w' := by
  have hk : ∀ b, b < w.heap.size → w'.heap[b]? = w.heap[b]? := fun b hb => hE.keep b hb fun _ _ h => by cases h
  refine ⟨⟨fun i l b hi hb => (hR.blk i l b hi hb).mono (Sub.refl ρ) (hk _ (hR.room i l hi)), hR.dom, hR.sep, ?_, hR.high, fun i l hi => Nat.lt_of_lt_of_le (hR.room i l hi) hE.size⟩,
    ⟨Sub.refl ρ, fun i l h k => .inl ⟨i, l, h, k, rfl⟩, hE.size, fun b hb _ => hk b hb, hE.os, hE.tape, hE.output⟩⟩
  exact hR.low.trans ⟨hE.os, hE.tape, hE.output, hE.size, fun k hk' => hk k (Nat.lt_of_lt_of_le hk' hR.low.size)⟩
theorem PureF.call {f : FuncId} {args : List Value} {v : Value} (p : PureF C f args v) {h : AHeap} {K E : KV} (hk : K v h) : CallP C f args h K E := by
  obtain ⟨ha, hv, c⟩ := p
  refine ⟨c.enters, fun ρ w args' hR hL => ?_⟩
  obtain rfl := lrel_af hL ha
  refine (c.calls ren0 w _ (rel_nil hR.low) (lrel_of_af ha)).mono fun en w' q => ?_
  cases en with
  | returned v' =>
    obtain ⟨ρ', u, h', hE, hR', hV, rfl⟩ := q
    obtain ⟨h1, h2⟩ := hR.frame hE
    exact ⟨ρ, u, h, h2, h1, by rw [hv.eq hV]; exact hv.rel ρ, hk⟩
  | panicked ch => obtain ⟨_, _, _, _, _, _, _, _, q⟩ := q; exact q.elim
  | outgrown => exact q.elim
/-- From a contract of the machine's own. -/
theorem PureF.of_calls {f : FuncId} {args : List Value} {v : Value} (ha : ∀ a ∈ args, AF a) (hv : AF v) (hen : Enters C.P f)
    (c : ∀ w : World, Below C.W0.heap.size C.W0 w → Calls C.P f args.toArray w fun e w' => e = .returned v ∧ Below w.heap.size w w') : PureF C f args v := by
  refine ⟨ha, hv, hen, fun ρ w args' hR hL => ?_⟩
  obtain rfl := lrel_af hL ha
  refine (c w hR.low).mono fun en w' q => ?_
  obtain ⟨rfl, hb⟩ := q
  refine ⟨ρ, v, [], ?_, ?_, hv.rel ρ, rfl⟩
  · exact ⟨Sub.refl ρ, fun i l h k => .inl ⟨i, l, h, k, rfl⟩, hb.size, fun b hlt _ => hb.block b hlt, hb.os, hb.tape, hb.output⟩
  · refine ⟨(fun i l b hi hb' => by cases hb'), (fun i l hi => hR.dom i l hi), (fun i j l m b c hi hj hij hb' => by cases hb'), ?_, hR.high, fun i l hi => Nat.lt_of_lt_of_le (hR.room i l hi) hb.size⟩
    exact hR.low.trans ⟨hb.os, hb.tape, hb.output, hb.size, fun k hk => hb.block k (Nat.lt_of_lt_of_le hk hR.low.size)⟩
/-- To a contract of the machine's own. -/
theorem PureF.calls {f : FuncId} {args : List Value} {v : Value} (p : PureF C f args v) : Calls C.P f args.toArray C.W0 fun e w' => e = .returned v ∧ Below C.W0.heap.size C.W0 w' := by
  obtain ⟨ha, hv, c⟩ := p
  refine (c.calls ren0 C.W0 args (rel_nil (Below.refl _ _)) (lrel_of_af ha)).mono fun en w' q => ?_
  cases en with
  | returned v' =>
    obtain ⟨ρ', u, h', hE, hR', hV, rfl⟩ := q
    exact ⟨by rw [hv.eq hV], hR'.low⟩
  | panicked ch => obtain ⟨_, _, _, _, _, _, _, _, q⟩ := q; exact q.elim
  | outgrown => exact q.elim
/-- Old blocks as they were, new ones behind them. -/
def Pref (h h' : AHeap) : Prop := ∃ t, h' = h ++ t
theorem VRel.narrow {ρ ρ' : Ren} (s : Sub ρ ρ') {c c0 : Value} (h0 : VRel ρ c c0) : ∀ {c' : Value}, VRel ρ' c c' → VRel ρ c c' := by
  have arr : ∀ (a a0 : Array Value), a.size = a0.size → (∀ (i : Nat) (u u' : Value), a[i]? = some u → a0[i]? = some u' → ∀ {c' : Value}, VRel ρ' u c' → VRel ρ u c') → ∀ (a' : Array Value), a.size = a'.size → (∀ (i : Nat) (u u' : Value), a[i]? = some u → a'[i]? = some u' → VRel ρ' u u') →
      ∀ (i : Nat) (u u' : Value), a[i]? = some u → a'[i]? = some u' → VRel ρ u u' := by
    intro a a0 hs ih a' _ hr i u u' p q
    have hlt : i < a0.size := by rw [← hs]; exact (Array.getElem?_eq_some_iff.mp p).1
    exact ih i u a0[i] p (by simp [hlt]) (hr i u u' p q)
  induction h0 with
  | bool b => intro c' h; cases h; exact .bool b
  | int k n => intro c' h; cases h; exact .int k n
  | string t => intro c' h; cases h; exact .string t
  | ptrN => intro c' h; cases h; exact .ptrN
  | ptr i o l hl =>
    intro c' h
    cases h with | ptr _ _ l2 hl2 => have := s i l hl; rw [hl2] at this; cases this; exact .ptr i o l hl
  | sliceN n k => intro c' h; cases h; exact .sliceN n k
  | slice i o n k l c1 hl h1 h2 h3 h4 =>
    intro c' h
    cases h with
    | slice _ _ _ _ l2 c2 hl2 g1 g2 g3 g4 => have := s i l hl; rw [hl2] at this; cases this; exact .slice i o n k l c2 hl g1 g2 g3 g4
    | slice0 _ _ l2 x hl2 => have := s i l hl; rw [hl2] at this; cases this; exact .slice0 i o l x hl
  | slice0 i o l x hl =>
    intro c' h
    cases h with
    | slice _ _ _ _ l2 c2 hl2 g1 g2 g3 g4 => have := s i l hl; rw [hl2] at this; cases this; exact .slice i o 0 0 l c2 hl g1 g2 g3 g4
    | slice0 _ _ l2 x2 hl2 => have := s i l hl; rw [hl2] at this; cases this; exact .slice0 i o l x2 hl
  | mapN => intro c' h; cases h; exact .mapN
  | map i l hl =>
    intro c' h
    cases h with | map _ l2 hl2 => have := s i l hl; rw [hl2] at this; cases this; exact .map i l hl
  | func f a a' b b' h1 h2 h3 h4 ih1 ih2 =>
    intro c' h
    cases h with | func _ _ a2 _ b2 g1 g2 g3 g4 => exact .func f a a2 b b2 g1 (arr a a' h1 ih1 a2 g1 g2) g3 (arr b b' h3 ih2 b2 g3 g4)
  | nilFunc => intro c' h; cases h; exact .nilFunc
  | nilIface => intro c' h; cases h; exact .nilIface
  | iface t v v' _ ih => intro c' h; cases h with | iface _ _ u hu => exact .iface t v u (ih hu)
  | agg a a' h1 h2 ih => intro c' h; cases h with | agg _ a2 g1 g2 => exact .agg a a2 g1 (arr a a' h1 ih a2 g1 g2)
  | tuple a a' h1 h2 ih => intro c' h; cases h with | tuple _ a2 g1 g2 => exact .tuple a a2 g1 (arr a a' h1 ih a2 g1 g2)
end
end Go.Den
namespace Go.Den
open Go Go.RowKit

/-! ### the types, by a reckoning -/
def beqK : IntKind → IntKind → Bool := keq
def veq1 : Value → Value → Bool
  | .bool a, .bool b => a == b
  | .int j a, .int k b => keq j k && a == b
  | .string a, .string b => a.data.toList == b.data.toList
  | .pointer none, .pointer none => true
  | .slice none a b, .slice none c d => Nat.beq a c && Nat.beq b d
  | .map none, .map none => true
  | .nilFunc, .nilFunc => true
  | .nilIface, .nilIface => true
  | _, _ => false
theorem veq1_eq {a b : Value} (h : veq1 a b = true) : a = b := by
  unfold veq1 at h
  split at h
  · rw [eq_of_beq h]
  · simp only [Bool.and_eq_true] at h
    rw [keq_eq h.1, eq_of_beq h.2]
  · rename_i x y
    have := eq_of_beq h
    obtain ⟨⟨x⟩⟩ := x; obtain ⟨⟨y⟩⟩ := y
    simp only at this; rw [this]
  · rfl
  · simp only [Bool.and_eq_true] at h
    rw [Nat.eq_of_beq_eq_true h.1, Nat.eq_of_beq_eq_true h.2]
  · rfl
  · rfl
  · rfl
  · cases h
def veqL : List Value → List Value → Bool
  | [], [] => true
  | a :: r, b :: s => veq1 a b && veqL r s
  | _, _ => false
theorem veqL_eq : ∀ {a b : List Value}, veqL a b = true → a = b
  | [], [], _ => rfl
  | a :: r, b :: s, h => by
    simp only [veqL, Bool.and_eq_true] at h
    rw [veq1_eq h.1, veqL_eq h.2]
  | [], _ :: _, h => by cases h
  | _ :: _, [], h => by cases h
def isAggV : Value → Bool
  | .agg _ => true
  | _ => false
def infoChk (P : Program) (t : TypeId) (size bytes : Nat) (agg : Bool) (z : List Value) : Bool :=
  match P.info? t, P.underlying t with
  | some info, some d => Nat.beq info.size size && Nat.beq info.bytes bytes && (aggD d == agg) && z.all cl1 && Nat.beq z.length size && (match info.zero with
    | some zv => veqL zv.cells.toList z && (isAggV zv == agg)
    | none => false)
  | _, _ => false
theorem infoChk_ok {P : Program} {t : TypeId} {size bytes : Nat} {agg : Bool} {z : List Value} (h : infoChk P t size bytes agg z = true) : InfoOk P t size bytes agg z := by
  unfold infoChk at h
  split at h
  · rename_i info d hi hd
    simp only [Bool.and_eq_true] at h
    obtain ⟨⟨⟨⟨⟨h1, h2⟩, h3⟩, h4⟩, h5⟩, h6⟩ := h
    split at h6
    · rename_i zv hz
      simp only [Bool.and_eq_true] at h6
      have hc := veqL_eq h6.1
      refine ⟨info, d, zv, hi, Nat.eq_of_beq_eq_true h1, Nat.eq_of_beq_eq_true h2, hz, hc, hd, eq_of_beq h3, fun ha => ?_, fun ha => ?_, h4, Nat.eq_of_beq_eq_true h5⟩
      · have := eq_of_beq h6.2
        rw [ha] at this
        cases zv <;> first | (cases this; done) | skip
        rw [← hc]; rfl
      · have := eq_of_beq h6.2
        rw [ha] at this
        have : z = [zv] := by
          rw [← hc]
          cases zv <;> first | rfl | (cases this; done)
        refine ⟨this, ?_⟩
        rw [this] at h4
        simpa using h4
    · cases h6
  · cases h
def fieldsChk (P : Program) : List Field → List (Nat × Nat × Bool) → Bool
  | [], [] => true
  | f :: r, x :: s => Nat.beq f.offset x.1 && (match P.info? f.type, P.underlying f.type with
    | some info, some d => Nat.beq info.size x.2.1 && (aggD d == x.2.2)
    | _, _ => false) && fieldsChk P r s
  | _, _ => false
theorem fieldsChk_ok {P : Program} : ∀ {l : List Field} {fs : List (Nat × Nat × Bool)}, fieldsChk P l fs = true → l.length = fs.length ∧
    ∀ (k : Nat) (x : Nat × Nat × Bool), fs[k]? = some x → ∃ f : Field, l[k]? = some f ∧ f.offset = x.1 ∧ ∃ (info : TypeInfo) (d : TypeDesc), P.info? f.type = some info ∧ info.size = x.2.1 ∧ P.underlying f.type = some d ∧ aggD d = x.2.2
  | [], [], _ => ⟨rfl, fun k x h => by cases h⟩
  | f :: r, y :: s, h => by
    simp only [fieldsChk, Bool.and_eq_true] at h
    obtain ⟨⟨h1, h2⟩, h3⟩ := h
    obtain ⟨i1, i2⟩ := fieldsChk_ok h3
    refine ⟨by simp [i1], fun k x hk => ?_⟩
    cases k with
    | zero =>
      cases hk
      split at h2
      · rename_i info d hi hd
        simp only [Bool.and_eq_true] at h2
        exact ⟨f, rfl, Nat.eq_of_beq_eq_true h1, info, d, hi, Nat.eq_of_beq_eq_true h2.1, hd, eq_of_beq h2.2⟩
      · cases h2
    | succ k => exact i2 k x hk
  | [], _ :: _, h => by cases h
  | _ :: _, [], h => by cases h
def shChk (P : Program) (t : TypeId) : Sh → Bool
  | .bool => match P.underlying t with | some .bool => true | _ => false
  | .int k => match P.underlying t with | some (.int j) => keq j k | _ => false
  | .string => match P.underlying t with | some .string => true | _ => false
  | .ptr esz => match P.underlying t with | some (.pointer e) => (match P.info? e with | some info => Nat.beq info.size esz | _ => false) | _ => false
  | .slice esz eb ea ez e => match P.underlying t with | some (.slice e') => Nat.beq e' e && infoChk P e esz eb ea ez | _ => false
  | .struct fs => match P.underlying t with | some (.struct fields) => fieldsChk P fields.toList fs | _ => false
  | .arr n esz ea => match P.underlying t with
    | some (.array m e) => Nat.beq m n && (match P.info? e, P.underlying e with
      | some info, some d => Nat.beq info.size esz && (aggD d == ea)
      | _, _ => false)
    | _ => false
  | .map ks ez => match P.underlying t with
    | some (.map k e) => (match P.underlying k with | some .string => ks | some (.int _) => !ks | _ => false) && cl ez && (match P.info? e with
      | some info => (match info.zero, ez with
        | some (.agg a), .agg b => veqL a.toList b.toList
        | some z, ez => veq1 z ez
        | none, _ => false)
      | none => false)
    | _ => false
  | .func => match P.underlying t with | some (.func _ _ _) => true | _ => false
  | .iface => match P.underlying t with | some (.interface _) => true | _ => false
  | .other => true
theorem shChk_ok {P : Program} {t : TypeId} {s : Sh} (h : shChk P t s = true) : shOk P t s := by
  cases s <;> simp only [shChk] at h <;> simp only [shOk]
  case bool => split at h <;> first | assumption | cases h
  case int k =>
    split at h
    · (rename_i hu; rw [hu, keq_eq h])
    · cases h
  case string => split at h <;> first | assumption | cases h
  case ptr esz =>
    split at h
    · rename_i e' hu
      split at h
      · rename_i info hi; exact ⟨_, info, hu, hi, Nat.eq_of_beq_eq_true h⟩
      · cases h
    · cases h
  case slice esz eb ea ez e =>
    split at h
    · rename_i e' hu
      simp only [Bool.and_eq_true] at h
      have := Nat.eq_of_beq_eq_true h.1
      subst this
      exact ⟨hu, infoChk_ok h.2⟩
    · cases h
  case struct fs =>
    split at h
    · rename_i fields hu
      obtain ⟨h1, h2⟩ := fieldsChk_ok h
      refine ⟨fields, hu, by simpa using h1, fun k x hk => ?_⟩
      obtain ⟨f, g1, g2⟩ := h2 k x hk
      exact ⟨f, by simpa using g1, g2⟩
    · cases h
  case arr n esz ea =>
    split at h
    · rename_i m e hu
      simp only [Bool.and_eq_true] at h
      obtain ⟨h1, h2⟩ := h
      have := Nat.eq_of_beq_eq_true h1
      subst this
      split at h2
      · rename_i info d hi hd
        simp only [Bool.and_eq_true] at h2
        exact ⟨e, info, d, hu, hi, Nat.eq_of_beq_eq_true h2.1, hd, eq_of_beq h2.2⟩
      · cases h2
    · cases h
  case map ks ez =>
    split at h
    · rename_i k e hu
      simp only [Bool.and_eq_true] at h
      obtain ⟨⟨h1, h2⟩, h3⟩ := h
      split at h3
      · rename_i info hi
        have hz : info.zero = some ez := by
          split at h3
          · rename_i hz; rw [hz]
            have h9 := veqL_eq h3
            congr 2
            exact Array.toList_inj.mp h9
          · rename_i hz _; rw [hz, veq1_eq h3]
          · cases h3
        split at h1
        · rename_i hk; subst h1; exact ⟨k, e, _, info, hu, hk, by simp, hi, hz, h2⟩
        · rename_i hk
          have : ks = false := by simpa using h1
          subst this
          exact ⟨k, e, _, info, hu, hk, by simp, hi, hz, h2⟩
        · cases h1
      · cases h3
    · cases h
  case func =>
    split at h
    · (rename_i hu; exact ⟨_, _, _, hu⟩)
    · cases h
  case iface =>
    split at h
    · (rename_i hu; exact ⟨_, hu⟩)
    · cases h
def kdE : Kd → Kd → Bool
  | .b, .b | .i, .i | .s, .s => true
  | _, _ => false
def kdsE : List Kd → List Kd → Bool
  | [], [] => true
  | a :: r, b :: s => kdE a b && kdsE r s
  | _, _ => false
theorem kdsE_eq : ∀ {a b : List Kd}, kdsE a b = true → a = b
  | [], [], _ => rfl
  | a :: r, b :: s, h => by
    simp only [kdsE, Bool.and_eq_true] at h
    have : a = b := by
      have h1 := h.1
      cases a <;> cases b <;> first | rfl | cases h1
    rw [this, kdsE_eq h.2]
  | [], _ :: _, h => by cases h
  | _ :: _, [], h => by cases h
def plChk (P : Program) (t : TypeId) : List Kd → Bool
  | [] => true
  | k :: ks => (match plainKs P 20 t with | some l => kdsE l (k :: ks) | none => false) && aggD ((P.underlying t).getD .invalid) && !P.eqGuardType P.depth t
theorem plChk_ok {P : Program} {t : TypeId} {l : List Kd} (h : plChk P t l = true) (hl : l ≠ []) : plainKs P 20 t = some l ∧ aggD ((P.underlying t).getD .invalid) = true ∧ P.eqGuardType P.depth t = false := by
  cases l with
  | nil => exact absurd rfl hl
  | cons k ks =>
    simp only [plChk, Bool.and_eq_true] at h
    obtain ⟨⟨h1, h2⟩, h3⟩ := h
    refine ⟨?_, h2, by simpa using h3⟩
    split at h1
    · rename_i l hq; rw [hq, kdsE_eq h1]
    · cases h1
def tysChk (P : Program) (T : Tys) : Bool := T.all fun p => infoChk P p.1 p.2.size p.2.bytes p.2.agg p.2.zero && shChk P p.1 p.2.sh && plChk P p.1 p.2.pl
theorem tysChk_ok {P : Program} : ∀ {T : Tys}, tysChk P T = true → TysOk P T ∧ TysPl P T := by
  intro T h
  suffices H : ∀ t i, T.get t = some i → TyOk P t i ∧ (i.pl ≠ [] → plainKs P 20 t = some i.pl ∧ aggD ((P.underlying t).getD .invalid) = true ∧ P.eqGuardType P.depth t = false) from ⟨fun t i q => (H t i q).1, fun t i q => (H t i q).2⟩
  intro t i
  intro ht
  induction T with
  | nil => cases ht
  | cons p r ih =>
    obtain ⟨u, j⟩ := p
    simp only [tysChk, List.all_cons, Bool.and_eq_true] at h
    have hg : Tys.get ((u, j) :: r) t = bif Nat.beq u t then some j else Tys.get r t := rfl
    rw [hg] at ht
    cases hb : Nat.beq u t with
    | true =>
      rw [hb] at ht; cases ht
      have := Nat.eq_of_beq_eq_true hb
      subst this
      exact ⟨⟨infoChk_ok h.1.1.1, shChk_ok h.1.1.2⟩, plChk_ok h.1.2⟩
    | false =>
      rw [hb] at ht
      exact ih h.2 ht
end Go.Den
namespace Go.Den
open Go Go.RowKit

/-! ### regions whose order is open -/
/-- The last of the numbers below n that are in D and hit. -/
def LW {β : Type} (D : Nat → Bool) (hit : Nat → Bool) (val : Nat → β) (base : β) : Nat → β
  | 0 => base
  | k + 1 => if (D k && hit k) = true then val k else LW D hit val base k
theorem LW_congr {β : Type} {D D' hit : Nat → Bool} {val : Nat → β} {base : β} : ∀ {n : Nat}, (∀ k, k < n → hit k = true → D k = D' k) → LW D hit val base n = LW D' hit val base n
  | 0, _ => rfl
  | n + 1, h => by
    have ih := LW_congr (β := β) (val := val) (base := base) (n := n) fun k hk => h k (by omega)
    unfold LW
    cases hh : hit n with
    | false => simp [ih]
    | true => rw [h n (by omega) hh, ih]
theorem LW_miss {β : Type} {D D' hit : Nat → Bool} {val : Nat → β} {base : β} {n i : Nat} (hi : hit i = false) (hD : ∀ k, k ≠ i → D' k = D k) : LW D' hit val base n = LW D hit val base n :=
  LW_congr fun k _ hk => hD k fun e => by subst e; rw [hi] at hk; cases hk
theorem LW_at {β : Type} {D hit : Nat → Bool} {val : Nat → β} {base : β} {i : Nat} (h1 : D i = true) (h2 : hit i = true) : ∀ {n : Nat}, i < n → (∀ k, i < k → k < n → hit k = true → D k = false) → LW D hit val base n = val i
  | 0, h, _ => by omega
  | n + 1, h, hk => by
    unfold LW
    by_cases e : n = i
    · subst e; simp [h1, h2]
    · have hlt : i < n := by omega
      have : (D n && hit n) = false := by
        cases hh : hit n with
        | false => simp
        | true => rw [hk n hlt (by omega) hh]; rfl
      rw [this]
      simp only [Bool.false_eq_true, if_false]
      exact LW_at h1 h2 hlt fun k a b c => hk k a (by omega) c

/-- What an operation of such a region has done. -/
structure LE where
  want : Bool
  v : Option Value
  rd : List (Nat × ABlk)
  wr : List (Nat × ABlk)
  al : Option ABlk
  nid : Nat
def LE.put (e : LE) : List (Nat × ABlk) := match e.al with
  | none => e.wr
  | some b => e.wr ++ [(e.nid, b)]
def lk (l : List (Nat × ABlk)) (id : Nat) : Option ABlk := match l with
  | [] => none
  | (i, b) :: r => match lk r id with
    | some c => some c
    | none => if i = id then some b else none
theorem lk_mem : ∀ {l : List (Nat × ABlk)} {id : Nat} {b : ABlk}, lk l id = some b → (id, b) ∈ l
  | (i, c) :: r, id, b, h => by
    unfold lk at h
    split at h
    · rename_i d hd; cases h; exact List.mem_cons_of_mem _ (lk_mem hd)
    · split at h
      · rename_i e; cases h; subst e; exact List.mem_cons_self ..
      · cases h
theorem lk_none : ∀ {l : List (Nat × ABlk)} {id : Nat}, lk l id = none → ∀ p ∈ l, p.1 ≠ id
  | (i, c) :: r, id, h, p, hp => by
    unfold lk at h
    split at h
    · cases h
    · rename_i hd
      split at h
      · cases h
      · rename_i e
        rcases List.mem_cons.mp hp with rfl | hp
        · exact e
        · exact lk_none hd p hp
theorem hset_get (wr : List (Nat × ABlk)) : ∀ (h : AHeap) (id : Nat), id < h.length → (hset h wr)[id]? = match lk wr id with | some b => some b | none => h[id]? := by
  induction wr with
  | nil => intro h id _; rfl
  | cons p r ih =>
    intro h id hid
    obtain ⟨i, b⟩ := p
    simp only [hset]
    rw [ih _ _ (by rw [List.length_set]; exact hid)]
    have hlk : lk ((i, b) :: r) id = match lk r id with | some c => some c | none => if i = id then some b else none := rfl
    rw [hlk]
    cases hl : lk r id with
    | some c => rfl
    | none =>
      simp only
      by_cases e : i = id
      · subst e; rw [if_pos rfl, List.getElem?_set_self hid]
      · rw [if_neg e, List.getElem?_set_ne e]
def eqM (b : Nat) (l : List (List Nat)) : List Nat := l.getD b []
/-- Which operations come before which: the waits, closed up. -/
def befM (ops : List Oper) : List Nat :=
  ops.foldl (fun acc o => acc ++ [o.after.toList.foldl (fun m e => if Region.binds .any e then m ||| 2 ^ e.on ||| acc.getD e.on 0 else m) 0]) []
def bef (bm : List Nat) (i j : Nat) : Bool := Nat.blt i j && (bm.getD j 0).testBit i
theorem bef_lt {bm : List Nat} {i j : Nat} (h : bef bm i j = true) : i < j := by
  simp only [bef, Bool.and_eq_true] at h
  exact Nat.le_of_ble_eq_true h.1
def befOk (ops : List Oper) (bm : List Nat) : Bool :=
  (List.range ops.length).all fun j => match ops[j]? with
    | none => true
    | some o => (o.after.toList.all fun e => !Region.binds .any e || Nat.blt e.on j) &&
        (List.range j).all fun i => !bef bm i j || o.after.toList.any fun e => Region.binds .any e && (Nat.beq e.on i || bef bm i e.on)
/-- The temporaries at which an operation looks, and the one that it writes. -/
def namesT (ops : List Oper) (o : Oper) : List Nat :=
  o.op.operands.toList.filterMap (fun | .tmp t => some t | _ => none) ++ (match o.guard with
    | some (j, _) => (match ops[j]? with | some oj => oj.dst.toList | none => [])
    | none => []) ++ o.dst.toList
def apartOk (ops : List Oper) (bm : List Nat) : Bool :=
  (List.range ops.length).all fun i => match ops[i]? with
    | none => true
    | some oi => match oi.dst with
      | none => true
      | some t => (List.range ops.length).all fun j => Nat.beq i j || bef bm i j || bef bm j i || match ops[j]? with
        | none => true
        | some oj => !(namesT ops oj).any (Nat.beq t ·)
def drawOk (ops : List Oper) (bm : List Nat) : Bool := befOk ops bm && apartOk ops bm
theorem befOk_spec {ops : List Oper} {bm : List Nat} (h : befOk ops bm = true) {j : Nat} {o : Oper} (ho : ops[j]? = some o) :
    (∀ e ∈ o.after, Region.binds .any e = true → e.on < j) ∧ ∀ i, i < j → bef bm i j = true → ∃ e ∈ o.after, Region.binds .any e = true ∧ (e.on = i ∨ bef bm i e.on = true) := by
  have hj : j < ops.length := (List.getElem?_eq_some_iff.mp ho).1
  have h1 := List.all_eq_true.mp h j (List.mem_range.mpr hj)
  rw [ho] at h1
  simp only [Bool.and_eq_true] at h1
  refine ⟨fun e he hb => ?_, fun i hi hb => ?_⟩
  · have := List.all_eq_true.mp h1.1 e (Array.mem_toList_iff.mpr he)
    rw [hb] at this
    simpa using this
  · have := List.all_eq_true.mp h1.2 i (List.mem_range.mpr hi)
    rw [hb] at this
    simp only [Bool.not_true, Bool.false_or, List.any_eq_true, Bool.and_eq_true, Bool.or_eq_true] at this
    obtain ⟨e, he, hb', hx⟩ := this
    exact ⟨e, Array.mem_toList_iff.mp he, hb', hx.imp Nat.eq_of_beq_eq_true id⟩
theorem apartOk_spec {ops : List Oper} {bm : List Nat} (h : apartOk ops bm = true) {i j t : Nat} {oi oj : Oper} (hi : ops[i]? = some oi) (hd : oi.dst = some t) (hj : ops[j]? = some oj) (hne : i ≠ j) (ht : t ∈ namesT ops oj) :
    bef bm i j = true ∨ bef bm j i = true := by
  have h1 := List.all_eq_true.mp h i (List.mem_range.mpr (List.getElem?_eq_some_iff.mp hi).1)
  rw [hi] at h1
  simp only [hd] at h1
  have h2 := List.all_eq_true.mp h1 j (List.mem_range.mpr (List.getElem?_eq_some_iff.mp hj).1)
  rw [hj] at h2
  simp only [Bool.or_eq_true] at h2
  rcases h2 with ((h2 | h2) | h2) | h2
  · exact absurd (Nat.eq_of_beq_eq_true h2) hne
  · exact .inl h2
  · exact .inr h2
  · exfalso
    have : (namesT ops oj).any (Nat.beq t ·) = true := List.any_eq_true.mpr ⟨t, ht, by simp⟩
    rw [this] at h2; cases h2
end Go.Den
namespace Go.Den
open Go Go.RowKit

theorem LW_ext {β : Type} {D hit hit' : Nat → Bool} {val val' : Nat → β} {base : β} : ∀ {n : Nat}, (∀ k, k < n → hit k = hit' k) → (∀ k, k < n → val k = val' k) → LW D hit val base n = LW D hit' val' base n
  | 0, _, _ => rfl
  | n + 1, h, g => by
    unfold LW
    rw [h n (by omega), g n (by omega), LW_ext (n := n) (fun k hk => h k (by omega)) (fun k hk => g k (by omega))]
theorem LW_prefix {β : Type} {hit : Nat → Bool} {val : Nat → β} {base : β} {k : Nat} : ∀ {n : Nat}, k ≤ n → LW (fun j => decide (j < k)) hit val base n = LW (fun _ => true) hit val base k
  | 0, h => by
    obtain rfl : k = 0 := by omega
    rfl
  | n + 1, h => by
    by_cases e : k = n + 1
    · subst e
      exact LW_congr fun j hj _ => by simp [hj]
    · have h' : k ≤ n := by omega
      have : LW (fun j => decide (j < k)) hit val base (n + 1) = LW (fun j => decide (j < k)) hit val base n := by
        conv => lhs; unfold LW
        rw [show (decide (n < k) && hit n) = false by simp [Nat.not_lt.mpr h']]
        simp
      rw [this, LW_prefix h']

/-- An operation that may stand in such a region. -/
def dK (C : Ctx) (o : Oper) (e : Env) (h : AHeap) (K : Eff → Prop) : Prop :=
  match o.op with
  | .call c => bif isCall C c then (match c.callee with
      | .value f => evK e f fun fv => match evA e c.args.toList with
        | some us => match fv with
          | .func (.func g) first cap => ∃ v, PureF C g (first.toList ++ us ++ cap.toList) v ∧ K (pure1 v)
          | _ => False
        | none => False
      | _ => False)
    else callK C c e h K
  | .panic _ => False
  | _ => opK C o e h K
theorem dK_sound {C : Ctx} (hC : C.Ok) {o : Oper} {e : Env} {h : AHeap} {K : Eff → Prop} (q : dK C o e h K) : ∃ f, Does C.P C.W0 o e h f ∧ K f := by
  unfold dK at q
  split at q
  · rename_i c ho
    cases hic : isCall C c with
    | false =>
      rw [hic] at q
      exact opK_sound hC (by unfold opK; rw [ho]; exact q)
    | true =>
      rw [hic] at q
      simp only [cond_true] at q
      split at q
      · rename_i f hcf
        obtain ⟨fv, hf, q⟩ := evK_ex q
        split at q
        · rename_i us hu
          split at q
          · rename_i g first cap
            obtain ⟨v, hp, hk⟩ := q
            refine ⟨_, .pure ?_, hk⟩
            intro ρ hh w a hR hO _ _ next Q hn
            have mf : f ∈ o.op.operands := by rw [ho]; simp [Op.operands, Call.operands, hcf]
            obtain ⟨first', cap', e1, L1, L2⟩ := func_inv (hO f mf _ hf)
            have hL := evA_rel (ρ := ρ) (a := a) c.args.toList us (fun x hx v hv => hO x (mem_call ho (Array.mem_toList_iff.mp hx)) v hv) hu
            have hex : (execOp a.eval o).run C.P w = .ok (.enter g ((first'.toList ++ c.args.toList.map a.eval ++ cap'.toList).toArray)) w := by
              have hargs : first' ++ c.args.map a.eval ++ cap' = (first'.toList ++ c.args.toList.map a.eval ++ cap'.toList).toArray := by
                apply Array.ext'; simp
              simp only [execOp, ho, resolve, hcf, e1, Deferred.ofValue, Sem.run_bind, Sem.run_pure, Result.andThen_ok, invoke, hargs]
              exact enter_run hp.2.2.enters _ w
            unfold Oper.wp
            rw [hex, Oper.upon_enter]
            have hcall := PureF.call hp (h := hh) (K := fun u h' => u = v ∧ h' = hh) (E := fun _ _ => False) ⟨rfl, rfl⟩
            refine (hcall.calls ρ w _ hR ((L1.app hL).app L2)).mono fun en w' hp' => ?_
            cases en with
            | returned v' =>
              obtain ⟨ρ', u, h', p1, p2, p3, rfl, rfl⟩ := hp'
              exact hn v' ρ' w' (fun u hu => by cases hu; exact p3) p1 p2
            | panicked ch => obtain ⟨_, _, _, _, _, _, _, _, z⟩ := hp'; exact z.elim
            | outgrown => exact hp'.elim
          · exact q.elim
        · exact q.elim
      · exact q.elim
  · exact q.elim
  · exact opK_sound hC q
noncomputable def wpD (C : Ctx) (N : Nat) (ops : List Oper) (K : Env → AHeap → List LE → Prop) (l : List Oper) : List LE → Env → AHeap → Prop :=
  List.rec (motive := fun _ => List LE → Env → AHeap → Prop) (fun dn e h => K e h dn) (fun o _ ih dn e h => bif dstOk N o.dst then guardK ops o.guard e
      (fun e => dK C o e h fun f => ih (dn ++ [⟨true, f.v, f.rd, f.wr, f.al, h.length⟩]) (e.putR o.dst f.v) (applyE h f))
      (fun e => ih (dn ++ [⟨false, some undefV, [], [], none, 0⟩]) (e.putR o.dst (some undefV)) h)
    else False) l
theorem wpD_cons {C : Ctx} {N : Nat} {ops : List Oper} {K : Env → AHeap → List LE → Prop} {o : Oper} {r : List Oper} {dn : List LE} {e : Env} {h : AHeap} : wpD C N ops K (o :: r) dn e h = (bif dstOk N o.dst then guardK ops o.guard e
      (fun e => dK C o e h fun f => wpD C N ops K r (dn ++ [⟨true, f.v, f.rd, f.wr, f.al, h.length⟩]) (e.putR o.dst f.v) (applyE h f))
      (fun e => wpD C N ops K r (dn ++ [⟨false, some undefV, [], [], none, 0⟩]) (e.putR o.dst (some undefV)) h)
    else False) := rfl
/-- The test of an operation, as the sketch has it. -/
def GIs (ops : List Oper) (o : Oper) (e : Env) (b : Bool) : Prop :=
  (o.guard = none ∧ b = true) ∨ ∃ (j : Nat) (want : Bool) (oj : Oper) (d : Nat), o.guard = some (j, want) ∧ ops[j]? = some oj ∧ oj.dst = some d ∧
    ((∃ x : Bool, e.get d = some (.bool x) ∧ b = (x == want)) ∨ (∃ vs, e.get d = some (.tuple vs) ∧ b = false))
theorem guardK_ex {ops : List Oper} {o : Oper} {e : Env} {y n : Env → Prop} (q : guardK ops o.guard e y n) :
    (∃ e', y e' ∧ (∀ t, e'.get t = e.get t) ∧ GIs ops o e true) ∨ (∃ e', n e' ∧ (∀ t, e'.get t = e.get t) ∧ GIs ops o e false) := by
  unfold guardK at q
  split at q
  · rename_i hg; exact .inl ⟨e, q, fun _ => rfl, .inl ⟨hg, rfl⟩⟩
  · rename_i j want hg
    split at q
    · rename_i oj hj
      split at q
      · rename_i d hdst
        split at q
        · rename_i b hget
          have same : ∀ t, Env.get ((d, some (.bool b)) :: e) t = e.get t := fun t => by
            rw [Env.get_cons]
            by_cases h : d = t
            · subst h; rw [if_pos rfl, hget]
            · rw [if_neg h]
          rcases brP.cases q with ⟨rfl, q⟩ | ⟨rfl, q⟩ <;> cases want
          · exact .inr ⟨_, q, same, .inr ⟨j, _, oj, d, hg, hj, hdst, .inl ⟨_, hget, rfl⟩⟩⟩
          · exact .inl ⟨_, q, same, .inr ⟨j, _, oj, d, hg, hj, hdst, .inl ⟨_, hget, rfl⟩⟩⟩
          · exact .inl ⟨_, q, same, .inr ⟨j, _, oj, d, hg, hj, hdst, .inl ⟨_, hget, rfl⟩⟩⟩
          · exact .inr ⟨_, q, same, .inr ⟨j, _, oj, d, hg, hj, hdst, .inl ⟨_, hget, rfl⟩⟩⟩
        · rename_i vs hget
          exact .inr ⟨e, q, fun _ => rfl, .inr ⟨j, want, oj, d, hg, hj, hdst, .inr ⟨vs, hget, rfl⟩⟩⟩
        · exact q.elim
      · exact q.elim
    · exact q.elim
def hitE (ops : List Oper) (t k : Nat) : Bool := match ops[k]? with
  | some o => (match o.dst with | some d => Nat.beq d t | none => false)
  | none => false
def valE (dn : List LE) (k : Nat) : Option Value := match dn[k]? with
  | some e => e.v
  | none => none
def hitH (dn : List LE) (id k : Nat) : Bool := match dn[k]? with
  | some e => (lk e.put id).isSome
  | none => false
def valH (dn : List LE) (id k : Nat) : Option ABlk := match dn[k]? with
  | some e => lk e.put id
  | none => none
/-- What is known of operation k, by the run in the text's order. -/
structure LOk (C : Ctx) (N : Nat) (ops : List Oper) (e0 : Env) (h0 : AHeap) (dn : List LE) (k : Nat) (o : Oper) (l : LE) : Prop where
  dst : dstOk N o.dst = true
  ex : ∃ (e : Env) (h : AHeap), (∀ t, e.get t = LW (fun _ => true) (hitE ops t) (valE dn) (e0.get t) k) ∧ (∀ id, id < h.length → h[id]? = LW (fun _ => true) (hitH dn id) (valH dn id) h0[id]? k) ∧
    (∀ id, h.length ≤ id → ∀ j, j < k → hitH dn id j = false) ∧ h0.length ≤ h.length ∧
    GIs ops o e l.want ∧ (l.want = true → OpSem C.P C.W0 o e l.rd l.wr (l.al.map (l.nid, ·)) l.v ∧ (∀ p ∈ l.rd, h[p.1]? = some p.2) ∧ (∀ p ∈ l.wr, ∃ b, (p.1, b) ∈ l.rd) ∧ l.nid = h.length) ∧
    (l.want = false → l.v = some undefV ∧ l.rd = [] ∧ l.wr = [] ∧ l.al = none)
structure DInv (C : Ctx) (N : Nat) (ops : List Oper) (e0 : Env) (h0 : AHeap) (dn : List LE) (e : Env) (h : AHeap) : Prop where
  env : ∀ t, e.get t = LW (fun _ => true) (hitE ops t) (valE dn) (e0.get t) dn.length
  heap : ∀ id, id < h.length → h[id]? = LW (fun _ => true) (hitH dn id) (valH dn id) h0[id]? dn.length
  fresh : ∀ id, h.length ≤ id → ∀ j, j < dn.length → hitH dn id j = false
  len : h0.length ≤ h.length
  ok : ∀ k o l, k < dn.length → ops[k]? = some o → dn[k]? = some l → LOk C N ops e0 h0 dn k o l
theorem valE_app {dn : List LE} {x : LE} {k : Nat} (h : k < dn.length) : valE (dn ++ [x]) k = valE dn k := by unfold valE; rw [List.getElem?_append_left h]
theorem hitH_app {dn : List LE} {x : LE} {id k : Nat} (h : k < dn.length) : hitH (dn ++ [x]) id k = hitH dn id k := by unfold hitH; rw [List.getElem?_append_left h]
theorem valH_app {dn : List LE} {x : LE} {id k : Nat} (h : k < dn.length) : valH (dn ++ [x]) id k = valH dn id k := by unfold valH; rw [List.getElem?_append_left h]
theorem LOk.app {C : Ctx} {N : Nat} {ops : List Oper} {e0 : Env} {h0 : AHeap} {dn : List LE} {k : Nat} {o : Oper} {l x : LE} (hk : k ≤ dn.length) (q : LOk C N ops e0 h0 dn k o l) : LOk C N ops e0 h0 (dn ++ [x]) k o l := by
  obtain ⟨e, h, p1, p2, p3, p4, p5⟩ := q.ex
  refine ⟨q.dst, e, h, fun t => ?_, fun id hid => ?_, fun id hid j hj => ?_, p4, p5⟩
  · rw [p1 t]; exact LW_ext (fun _ _ => rfl) (fun j hj => (valE_app (by omega)).symm)
  · rw [p2 id hid]; exact LW_ext (fun j hj => (hitH_app (by omega)).symm) (fun j hj => (valH_app (by omega)).symm)
  · rw [hitH_app (by omega)]; exact p3 id hid j hj
theorem applyE_len (h : AHeap) (f : Eff) : (applyE h f).length = h.length + (if f.al.isSome then 1 else 0) := by
  unfold applyE
  cases f.al <;> simp [hset_length]
theorem lk_app : ∀ (l : List (Nat × ABlk)) (i : Nat) (b : ABlk) (id : Nat), lk (l ++ [(i, b)]) id = if i = id then some b else lk l id
  | [], i, b, id => by unfold lk; simp [lk]
  | (j, c) :: r, i, b, id => by
    have h1 : lk ((j, c) :: r ++ [(i, b)]) id = match lk (r ++ [(i, b)]) id with | some d => some d | none => if j = id then some c else none := rfl
    have h2 : lk ((j, c) :: r) id = match lk r id with | some d => some d | none => if j = id then some c else none := rfl
    rw [h1, h2, lk_app r i b id]
    by_cases e : i = id
    · simp [e]
    · simp [e]
/-- One operation more. -/
theorem DInv.step {C : Ctx} {N : Nat} {ops : List Oper} {e0 : Env} {h0 : AHeap} {dn : List LE} {e e' : Env} {h : AHeap} (I : DInv C N ops e0 h0 dn e h) {o : Oper} (ho : ops[dn.length]? = some o) {l : LE}
    (hl : LOk C N ops e0 h0 dn dn.length o l) (he : ∀ t, e'.get t = e.get t) (h' : AHeap) (hlen : h.length ≤ h'.length) (hh : ∀ id, id < h'.length → h'[id]? = match lk l.put id with | some b => some b | none => h[id]?)
    (hfr : ∀ id, h'.length ≤ id → lk l.put id = none) : DInv C N ops e0 h0 (dn ++ [l]) (e'.putR o.dst l.v) h' := by
  have hn : (dn ++ [l]).length = dn.length + 1 := by simp
  have hat : (dn ++ [l])[dn.length]? = some l := by simp
  refine ⟨fun t => ?_, fun id hid => ?_, fun id hid j hj => ?_, Nat.le_trans I.len hlen, fun k o' l' hk ho' hl' => ?_⟩
  · rw [hn]
    unfold LW
    have hv : valE (dn ++ [l]) dn.length = l.v := by unfold valE; rw [hat]
    have hb : LW (fun _ => true) (hitE ops t) (valE (dn ++ [l])) (e0.get t) dn.length = e'.get t := by
      rw [he t, I.env t]; exact LW_ext (fun _ _ => rfl) (fun j hj => valE_app hj)
    have hE : hitE ops t dn.length = match o.dst with | some d => Nat.beq d t | none => false := by unfold hitE; rw [ho]
    rw [hv, hb, hE]
    cases hd : o.dst with
    | none => simp [Env.putR]
    | some d =>
      show Env.get ((d, l.v) :: e') t = _
      rw [Env.get_cons]
      by_cases q : d = t
      · subst q; simp
      · rw [if_neg q]
        have : Nat.beq d t = false := by
          cases hb : Nat.beq d t with
          | false => rfl
          | true => exact absurd (Nat.eq_of_beq_eq_true hb) q
        simp [this]
  · rw [hn, hh id hid]
    unfold LW
    have h1 : hitH (dn ++ [l]) id dn.length = (lk l.put id).isSome := by unfold hitH; rw [hat]
    have h2 : valH (dn ++ [l]) id dn.length = lk l.put id := by unfold valH; rw [hat]
    rw [h1, h2]
    cases hk : lk l.put id with
    | some b => simp
    | none =>
      simp only [Option.isSome_none, Bool.and_false, Bool.false_eq_true, if_false]
      have hb : LW (fun _ => true) (hitH (dn ++ [l]) id) (valH (dn ++ [l]) id) h0[id]? dn.length = LW (fun _ => true) (hitH dn id) (valH dn id) h0[id]? dn.length :=
        LW_ext (fun j hj => hitH_app hj) (fun j hj => valH_app hj)
      rw [hb]
      rcases Nat.lt_or_ge id h.length with q | q
      · exact I.heap id q
      · have : LW (fun _ => true) (hitH dn id) (valH dn id) h0[id]? dn.length = LW (fun _ => false) (hitH dn id) (valH dn id) h0[id]? dn.length :=
          LW_congr fun j hj hit => by rw [I.fresh id q j hj] at hit; cases hit
        have h0n : h0[id]? = none := List.getElem?_eq_none (Nat.le_trans I.len q)
        have hz : ∀ n, LW (fun _ => false) (hitH dn id) (valH dn id) h0[id]? n = h0[id]? := fun n => by
          induction n with
          | zero => rfl
          | succ n ih => unfold LW; simp [ih]
        rw [this, hz, h0n, List.getElem?_eq_none q]
  · rw [hn] at hj
    rcases Nat.lt_or_ge j dn.length with q | q
    · rw [hitH_app q]; exact I.fresh id (by omega) j q
    · obtain rfl : j = dn.length := by omega
      unfold hitH; rw [hat]
      show (lk l.put id).isSome = false
      rw [hfr id hid]; rfl
  · rw [hn] at hk
    rcases Nat.lt_or_ge k dn.length with q | q
    · rw [List.getElem?_append_left q] at hl'
      exact (I.ok k o' l' q ho' hl').app (by omega)
    · obtain rfl : k = dn.length := by omega
      rw [ho] at ho'; cases ho'
      rw [hat] at hl'; cases hl'
      exact hl.app (Nat.le_refl _)
end Go.Den
namespace Go.Den
open Go Go.RowKit
section
variable {C : Ctx} (hC : C.Ok) {N : Nat} {ops : List Oper} {e0 : Env} {h0 : AHeap}
include hC
theorem wpD_log {K : Env → AHeap → List LE → Prop} : ∀ (r : List Oper) (dn : List LE) (e : Env) (h : AHeap), wpD C N ops K r dn e h → DInv C N ops e0 h0 dn e h → (∀ k, r[k]? = ops[dn.length + k]?) →
    ∃ e' h' dn', K e' h' dn' ∧ DInv C N ops e0 h0 dn' e' h' ∧ dn'.length = dn.length + r.length := by
  intro r
  induction r with
  | nil => intro dn e h q I _; exact ⟨e, h, dn, q, I, by simp⟩
  | cons o r ih =>
    intro dn e h q I hr
    rw [wpD_cons] at q
    have ho : ops[dn.length]? = some o := by have := hr 0; simpa using this.symm
    have hr' : ∀ (x : LE) k, r[k]? = ops[(dn ++ [x]).length + k]? := fun x k => by
      have := hr (k + 1)
      rw [List.getElem?_cons_succ] at this
      rw [this]; congr 1; simp; omega
    cases hd : dstOk N o.dst with
    | false => rw [hd] at q; exact q.elim
    | true =>
      rw [hd] at q
      simp only [cond_true] at q
      rcases guardK_ex q with ⟨e1, q, he, hg⟩ | ⟨e1, q, he, hg⟩
      · obtain ⟨f, D, q⟩ := dK_sound hC q
        have hwr : ∀ p ∈ f.wr, p.1 < h.length := fun p hp => by
          obtain ⟨b, hb⟩ := D.wr p hp
          exact (List.getElem?_eq_some_iff.mp (D.rd _ hb)).1
        have hput : ∀ id, lk (LE.put ⟨true, f.v, f.rd, f.wr, f.al, h.length⟩) id = match f.al with | some b => if h.length = id then some b else lk f.wr id | none => lk f.wr id := fun id => by
          unfold LE.put
          cases f.al with
          | none => rfl
          | some b => exact lk_app _ _ _ _
        have hlk : ∀ id, h.length ≤ id → lk f.wr id = none := fun id hid => by
          cases hq : lk f.wr id with
          | none => rfl
          | some b => have := hwr _ (lk_mem hq); simp at this; omega
        have L : LOk C N ops e0 h0 dn dn.length o ⟨true, f.v, f.rd, f.wr, f.al, h.length⟩ :=
          ⟨hd, e1, h, (fun t => by rw [he t]; exact I.env t), I.heap, I.fresh, I.len, (by
            rcases hg with ⟨g1, g2⟩ | ⟨j, want, oj, d, g1, g2, g3, g4⟩
            · exact .inl ⟨g1, g2⟩
            · exact .inr ⟨j, want, oj, d, g1, g2, g3, by rw [he d]; exact g4⟩), (fun _ => ⟨D.sem, D.rd, D.wr, rfl⟩), (fun z => by cases z)⟩
        have I' := I.step (e' := e1) ho L he (applyE h f) (by rw [applyE_len]; omega) (fun id hid => by
          rw [hput id]
          unfold applyE at hid ⊢
          cases hal : f.al with
          | none =>
            rw [hal] at hid
            simp only at hid ⊢
            rw [hset_length] at hid
            exact hset_get _ _ _ hid
          | some b =>
            rw [hal] at hid
            simp only at hid ⊢
            by_cases hx : h.length = id
            · subst hx
              rw [if_pos rfl, List.getElem?_append_right (by rw [hset_length]; exact Nat.le_refl _), hset_length]; simp
            · rw [if_neg hx]
              rw [List.length_append, hset_length] at hid
              have hid' : id < h.length := by simp at hid; omega
              rw [List.getElem?_append_left (by rw [hset_length]; exact hid')]
              exact hset_get _ _ _ hid') (fun id hid => by
          rw [applyE_len] at hid
          rw [hput id]
          cases hal : f.al with
          | none => exact hlk id (by omega)
          | some b =>
            rw [hal] at hid
            simp at hid
            simp only
            rw [if_neg (by omega)]
            exact hlk id (by omega))
        obtain ⟨e', h', dn', k1, k2, k3⟩ := ih _ _ _ q I' (hr' _)
        exact ⟨e', h', dn', k1, k2, by rw [k3]; simp; omega⟩
      · have L : LOk C N ops e0 h0 dn dn.length o ⟨false, some undefV, [], [], none, 0⟩ :=
          ⟨hd, e1, h, (fun t => by rw [he t]; exact I.env t), I.heap, I.fresh, I.len, (by
            rcases hg with ⟨g1, g2⟩ | ⟨j, want, oj, d, g1, g2, g3, g4⟩
            · exact .inl ⟨g1, g2⟩
            · exact .inr ⟨j, want, oj, d, g1, g2, g3, by rw [he d]; exact g4⟩), (fun z => by cases z), (fun _ => ⟨rfl, rfl, rfl, rfl⟩)⟩
        have I' := I.step (e' := e1) ho L he h (Nat.le_refl _) (fun id hid => by simp [LE.put, lk]) (fun id hid => by simp [LE.put, lk])
        obtain ⟨e', h', dn', k1, k2, k3⟩ := ih _ _ _ q I' (hr' _)
        exact ⟨e', h', dn', k1, k2, by rw [k3]; simp; omega⟩
end

/-- Two operations that wait for each other in no order: neither writes what the other reads. -/
def Apart2 (a b : LE) : Prop := (∀ p ∈ a.put, ∀ q ∈ b.rd, p.1 ≠ q.1) ∧ (∀ p ∈ b.wr, ∀ q ∈ a.rd, p.1 ≠ q.1)
def Compat (bm : List Nat) (dn : List LE) : Prop := ∀ i j a b, i < j → dn[i]? = some a → dn[j]? = some b → bef bm i j = false → Apart2 a b

section
variable {C : Ctx} (hC : C.Ok) {N : Nat} {ops : List Oper} {e0 : Env} {h0 : AHeap} {dn : List LE} {ef : Env} {hf : AHeap}
def DS (C : Ctx) (N : Nat) (ops : List Oper) (e0 : Env) (h0 : AHeap) (dn : List LE) (hf : AHeap) (ρ0 : Ren) (w0 : World) (D : Nat → Bool) (a : Act) (w : World) : Prop :=
  ∃ ρ, Ext ρ0 w0 ρ w ∧ Rel C.W0 ρ ((List.range hf.length).map fun id => (LW D (hitH dn id) (valH dn id) (h0[id]?) ops.length).getD .free) w ∧
    (∀ t v, LW D (hitE ops t) (valE dn) (e0.get t) ops.length = some v → ∃ v' : Value, a.tmps[t]? = some v' ∧ VRel ρ v v') ∧ a.tmps.size = N ∧ a.defers = []
/-- Listed: closed under what comes before. -/
def Closed (bm : List Nat) (n : Nat) (D : Nat → Bool) : Prop := ∀ i j, i < n → j < n → bef bm i j = true → D j = true → D i = true
theorem closed_of {bm : List Nat} (hb : befOk ops bm = true) {D : Nat → Bool} (hD : ∀ j o, ops[j]? = some o → D j = true → ∀ e ∈ o.after, Region.binds .any e = true → D e.on = true) :
    ∀ j i o, ops[j]? = some o → bef bm i j = true → i < j → D j = true → D i = true := by
  intro j
  induction j using Nat.strongRecOn with
  | _ j ih =>
    intro i o ho hbe hij hj
    obtain ⟨h1, h2⟩ := befOk_spec hb ho
    obtain ⟨e, he, hbd, hx⟩ := h2 i hij hbe
    have hon := hD j o ho hj e he hbd
    rcases hx with rfl | hx
    · exact hon
    · have hlt := h1 e he hbd
      have hjl : j < ops.length := (List.getElem?_eq_some_iff.mp ho).1
      exact ih e.on hlt i ops[e.on] (by simp) hx (bef_lt hx) hon
/-- What comes up next, and what has come up: of those that an operation must be ordered with, just the ones before it have come up. -/
theorem before_iff {bm : List Nat} (hb : befOk ops bm = true) {D : Nat → Bool} (hD : ∀ j o, ops[j]? = some o → D j = true → ∀ e ∈ o.after, Region.binds .any e = true → D e.on = true)
    {i : Nat} {o : Oper} (ho : ops[i]? = some o) (hi : D i = false) (hr : ∀ e ∈ o.after, Region.binds .any e = true → D e.on = true) {k : Nat} (hk : k < ops.length) (hne : k ≠ i) (hord : bef bm k i = true ∨ bef bm i k = true) :
    D k = decide (k < i) := by
  rcases hord with h | h
  · have hlt := bef_lt h
    rw [decide_eq_true hlt]
    obtain ⟨h1, h2⟩ := befOk_spec hb ho
    obtain ⟨e, he, hbd, hx⟩ := h2 k hlt h
    have hon := hr e he hbd
    rcases hx with rfl | hx
    · exact hon
    · have hon' : e.on < ops.length := Nat.lt_trans (h1 e he hbd) (List.getElem?_eq_some_iff.mp ho).1
      exact closed_of hb hD e.on k ops[e.on] (by simp) hx (bef_lt hx) hon
  · have hlt := bef_lt h
    rw [decide_eq_false (by omega)]
    cases hDk : D k with
    | false => rfl
    | true =>
      have := closed_of hb hD k i ops[k] (by simp) h hlt hDk
      rw [hi] at this; cases this
theorem mem_put {l : LE} {p : Nat × ABlk} (h : p ∈ l.put) : p ∈ l.wr ∨ ∃ b, l.al = some b ∧ p.1 = l.nid := by
  unfold LE.put at h
  cases hal : l.al with
  | none => rw [hal] at h; exact .inl h
  | some b =>
    rw [hal] at h
    rcases List.mem_append.mp h with h | h
    · exact .inl h
    · rw [List.mem_singleton.mp h]; exact .inr ⟨b, rfl, rfl⟩
theorem LW_false {β : Type} {hit : Nat → Bool} {val : Nat → β} {base : β} : ∀ n, LW (fun _ => false) hit val base n = base
  | 0 => rfl
  | n + 1 => by unfold LW; simp [LW_false n]
theorem LW_none {β : Type} {D hit : Nat → Bool} {val : Nat → β} {base : β} : ∀ {n : Nat}, (∀ k, k < n → hit k = false) → LW D hit val base n = base
  | 0, _ => rfl
  | n + 1, h => by
    unfold LW
    rw [h n (by omega)]
    simp only [Bool.and_false, Bool.false_eq_true, if_false]
    exact LW_none fun k hk => h k (by omega)
theorem range_get {β : Type} (f : Nat → β) (n id : Nat) (h : id < n) : ((List.range n).map f)[id]? = some (f id) := by simp [h]
include hC
/-- One of those that may come up comes up. -/
theorem DS.step (I : DInv C N ops e0 h0 dn ef hf) (hn : dn.length = ops.length) {bm : List Nat} (hb : drawOk ops bm = true) (hcp : Compat bm dn) {ρ0 : Ren} {w0 : World} {D : Nat → Bool}
    (hD : ∀ j o, ops[j]? = some o → D j = true → ∀ e ∈ o.after, Region.binds .any e = true → D e.on = true) {i : Nat} {o : Oper} (ho : ops[i]? = some o) (hi : D i = false) (hr : ∀ e ∈ o.after, Region.binds .any e = true → D e.on = true)
    {a : Act} {w : World} (S : DS C N ops e0 h0 dn hf ρ0 w0 D a w) {next : Act → World → Prop} {Q : Exit → Act → World → Prop}
    (hx : ∀ (a' : Act) (w' : World), DS C N ops e0 h0 dn hf ρ0 w0 (fun k => if k = i then true else D k) a' w' → next a' w') :
    if Region.wanted o (yielded ops.toArray a.tmps) then o.wp C.P a w next Q else next (a.put o.dst undef) w := by
  simp only [drawOk, Bool.and_eq_true] at hb
  have hil : i < ops.length := (List.getElem?_eq_some_iff.mp ho).1
  have hdi : dn[i]? = some dn[i] := by simp
  obtain ⟨hdst, e, h, q1, q2, q3, q4, q5, q6, q7⟩ := I.ok i o dn[i] (by omega) ho hdi
  obtain ⟨ρ, hE, hR, hV, hsz, hdf⟩ := S
  generalize hl : dn[i] = l at *
  -- temporaries that are named read as in the text's order
  have hnames : ∀ t, t ∈ namesT ops o → LW D (hitE ops t) (valE dn) (e0.get t) ops.length = e.get t := by
    intro t ht
    rw [q1 t, ← LW_prefix (Nat.le_of_lt hil)]
    refine LW_congr fun k hk hit => ?_
    by_cases hki : k = i
    · subst hki; rw [hi]; simp
    · refine before_iff hb.1 hD ho hi hr hk hki ?_
      have hok : ops[k]? = some ops[k] := by simp
      unfold hitE at hit
      rw [hok] at hit
      cases hkd : ops[k].dst with
      | none => simp [hkd] at hit
      | some d =>
        simp only [hkd] at hit
        have := Nat.eq_of_beq_eq_true hit
        subst this
        exact apartOk_spec hb.2 hok hkd ho hki ht
  -- blocks that are read, too
  have hrdD : ∀ p ∈ l.rd, ∀ k, k < ops.length → hitH dn p.1 k = true → k ≠ i → D k = decide (k < i) := by
    intro p hp k hk hit hki
    refine before_iff hb.1 hD ho hi hr hk hki ?_
    have hdk : dn[k]? = some dn[k] := List.getElem?_eq_getElem (by omega)
    unfold hitH at hit
    rw [hdk] at hit
    simp only at hit
    obtain ⟨b, hb'⟩ := Option.isSome_iff_exists.mp hit
    have hm := lk_mem hb'
    cases h1 : bef bm k i with
    | true => exact .inl rfl
    | false =>
      cases h2 : bef bm i k with
      | true => exact .inr rfl
      | false =>
        exfalso
        rcases Nat.lt_or_gt_of_ne hki with hlt | hlt
        · exact (hcp k i dn[k] l hlt hdk hdi h1).1 _ hm p hp rfl
        · have hA := hcp i k l dn[k] hlt hdi hdk h2
          rcases mem_put hm with hm | ⟨b', hal, hnid⟩
          · exact hA.2 _ hm p hp rfl
          · obtain ⟨_, ek, hk', r1, r2, r3, r4, r5, r6, r7⟩ := I.ok k ops[k] dn[k] (by omega) (by simp) hdk
            have hwk : dn[k].want = true := by
              cases hw : dn[k].want with
              | true => rfl
              | false => have := (r7 hw).2.2.2; rw [hal] at this; cases this
            have hnk := (r6 hwk).2.2.2
            have hwi : l.want = true := by
              cases hw : l.want with
              | true => rfl
              | false => have := (q7 hw).2.1; rw [this] at hp; cases hp
            have hsome := (q6 hwi).2.1 p hp
            have hlt' : p.1 < h.length := (List.getElem?_eq_some_iff.mp hsome).1
            rw [q2 p.1 hlt', LW_none (fun j hj => r3 p.1 (by rw [hnid, hnk]; exact Nat.le_refl _) j (by omega)), List.getElem?_eq_none (by rw [hnid, hnk]; exact r4)] at hsome
            cases hsome
  have hin : ∀ id, hitH dn id i = true → id < hf.length := fun id hit => by
    rcases Nat.lt_or_ge id hf.length with q | q
    · exact q
    · have := I.fresh id q i (by omega); rw [hit] at this; cases this
  have hiti : ∀ id, hitH dn id i = (lk l.put id).isSome := fun id => by unfold hitH; rw [hdi]
  have hvali : ∀ id, valH dn id i = lk l.put id := fun id => by unfold valH; rw [hdi]
  have hD' : ∀ k, k ≠ i → (if k = i then true else D k) = D k := fun k hk => if_neg hk
  -- the temporaries behind it
  have henv : ∀ (ρ' : Ren) (v' : Value), Sub ρ ρ' → (∀ u, l.v = some u → VRel ρ' u v') → ∀ t v, LW (fun k => if k = i then true else D k) (hitE ops t) (valE dn) (e0.get t) ops.length = some v → ∃ u : Value, (a.put o.dst v').tmps[t]? = some u ∧ VRel ρ' v u := by
    intro ρ' v' hs hv t v ht
    cases hod : o.dst with
    | none =>
      have : hitE ops t i = false := by unfold hitE; rw [ho]; simp [hod]
      rw [LW_miss this hD'] at ht
      obtain ⟨u, p1, p2⟩ := hV t v ht
      exact ⟨u, p1, p2.mono hs⟩
    | some d =>
      by_cases hdt : d = t
      · subst hdt
        have hit : hitE ops d i = true := by unfold hitE; rw [ho]; simp [hod]
        rw [LW_at (i := i) (by simp) hit hil (fun k hk1 hk2 hit2 => ?_)] at ht
        · have hve : valE dn i = l.v := by unfold valE; rw [hdi]
          rw [hve] at ht
          have hdN : d < a.tmps.size := by rw [hsz]; rw [hod] at hdst; exact Nat.le_of_ble_eq_true (show Nat.ble (d + 1) N = true from hdst)
          exact ⟨v', by show (a.tmps.setIfInBounds d v')[d]? = _; simp [hdN], hv v ht⟩
        · have hok : ops[k]? = some ops[k] := by simp
          have hkd : ops[k].dst = some d := by
            unfold hitE at hit2
            rw [hok] at hit2
            cases hq : ops[k].dst with
            | none => simp [hq] at hit2
            | some d2 => simp only [hq] at hit2; rw [Nat.eq_of_beq_eq_true hit2]
          have hmem : d ∈ namesT ops ops[k] := by unfold namesT; rw [hkd]; simp
          have hor := apartOk_spec hb.2 ho hod hok (by omega) hmem
          rw [if_neg (by omega), before_iff hb.1 hD ho hi hr hk2 (by omega) hor.symm]
          exact decide_eq_false (by omega)
      · have : hitE ops t i = false := by
          unfold hitE; rw [ho]; simp only [hod]
          cases hq : Nat.beq d t with
          | false => rfl
          | true => exact absurd (Nat.eq_of_beq_eq_true hq) hdt
        rw [LW_miss this hD'] at ht
        obtain ⟨u, p1, p2⟩ := hV t v ht
        exact ⟨u, by show (a.tmps.setIfInBounds d v')[t]? = _; rw [Array.getElem?_setIfInBounds_ne hdt]; exact p1, p2.mono hs⟩
  have hput : ∀ v' : Value, (a.put o.dst v').tmps.size = N ∧ (a.put o.dst v').defers = [] := fun v' => by
    cases o.dst with
    | none => exact ⟨hsz, hdf⟩
    | some d => exact ⟨by show (a.tmps.setIfInBounds d v').size = N; rw [Array.size_setIfInBounds]; exact hsz, hdf⟩
  -- the test
  have hwant : Region.wanted o (yielded ops.toArray a.tmps) = l.want := by
    rcases q5 with ⟨g1, g2⟩ | ⟨j, want, oj, d, g1, g2, g3, g4⟩
    · rw [g2]; simp [Region.wanted, g1]
    · have hmem : d ∈ namesT ops o := by unfold namesT; rw [g1]; simp [g2, g3]
      have hg2 : ops.toArray[j]? = some oj := by simpa using g2
      have hrd' := hnames d hmem
      rcases g4 with ⟨x, g5, g6⟩ | ⟨vs, g5, g6⟩
      · obtain ⟨u, p1, p2⟩ := hV d _ (hrd'.trans g5)
        have := (AF.bool x).eq p2
        subst this
        rw [g6]
        simp only [Region.wanted, g1, yielded, hg2, Option.bind_some, g3, p1]
        cases x <;> cases want <;> rfl
      · obtain ⟨u, p1, p2⟩ := hV d _ (hrd'.trans g5)
        obtain ⟨ds, rfl, _⟩ := tuple_inv p2
        rw [g6]
        simp only [Region.wanted, g1, yielded, hg2, Option.bind_some, g3, p1]
        rfl
  rw [hwant]
  cases hw : l.want with
  | false =>
    obtain ⟨z1, z2, z3, z4⟩ := q7 hw
    simp only [Bool.false_eq_true, if_false]
    refine hx _ w ⟨ρ, hE, ?_, henv ρ undef (Sub.refl ρ) (fun u hu => by rw [z1] at hu; cases hu; exact (AF.tuple (by intro v hv; simp at hv)).rel ρ), (hput undef).1, (hput undef).2⟩
    have : (List.range hf.length).map (fun id => (LW (fun k => if k = i then true else D k) (hitH dn id) (valH dn id) (h0[id]?) ops.length).getD .free) = (List.range hf.length).map (fun id => (LW D (hitH dn id) (valH dn id) (h0[id]?) ops.length).getD .free) := by
      apply List.map_congr_left
      intro id _
      rw [LW_miss (by rw [hiti]; unfold LE.put; rw [z4, z3]; rfl) hD']
    rw [this]; exact hR
  | true =>
    obtain ⟨s1, s2, s3, s4⟩ := q6 hw
    simp only [if_true]
    -- new places are hit by nobody else
    have hnew : ∀ b, l.al = some b → ∀ k, k < ops.length → k ≠ i → hitH dn l.nid k = true → D k = false := by
      intro b hal k hk hki hit
      have hdk : dn[k]? = some dn[k] := List.getElem?_eq_getElem (by omega)
      rcases Nat.lt_or_gt_of_ne hki with hlt | hlt
      · have := q3 l.nid (by rw [s4]; exact Nat.le_refl _) k hlt
        rw [hit] at this; cases this
      · obtain ⟨_, ek, hk', r1, r2, r3, r4, r5, r6, r7⟩ := I.ok k ops[k] dn[k] (by omega) (by simp) hdk
        have hii : hitH dn l.nid i = true := by rw [hiti]; unfold LE.put; rw [hal]; simp only; rw [lk_app]; simp
        unfold hitH at hit
        rw [hdk] at hit
        simp only at hit
        obtain ⟨b2, hb2⟩ := Option.isSome_iff_exists.mp hit
        have hwk : dn[k].want = true := by
          cases hwq : dn[k].want with
          | true => rfl
          | false =>
            obtain ⟨_, _, t3, t4⟩ := r7 hwq
            have := lk_mem hb2
            unfold LE.put at this; rw [t4, t3] at this; cases this
        rcases mem_put (lk_mem hb2) with hm | ⟨b', hal', hnid⟩
        · obtain ⟨b3, hb3⟩ := (r6 hwk).2.2.1 _ hm
          cases h2 : bef bm i k with
          | true =>
            rw [before_iff hb.1 hD ho hi hr hk hki (.inr h2)]
            exact decide_eq_false (by omega)
          | false =>
            exfalso
            refine (hcp i k l dn[k] hlt hdi hdk h2).1 (l.nid, b) ?_ _ hb3 rfl
            unfold LE.put; rw [hal]; simp
        · have hnid2 : l.nid = dn[k].nid := hnid
          have := r3 l.nid (by rw [hnid2, (r6 hwk).2.2.2]; exact Nat.le_refl _) i hlt
          rw [hii] at this; cases this
    have hget : ∀ id, id < hf.length → ((List.range hf.length).map fun id => (LW D (hitH dn id) (valH dn id) (h0[id]?) ops.length).getD .free)[id]? = some ((LW D (hitH dn id) (valH dn id) (h0[id]?) ops.length).getD .free) := fun id hid => range_get _ _ _ hid
    refine s1 ρ _ w a hR ?_ ?_ ?_ next Q ?_
    · intro x hxm v hv
      cases x with
      | tmp t =>
        have hmem : t ∈ namesT ops o := by
          unfold namesT
          refine List.mem_append.mpr (.inl (List.mem_append.mpr (.inl (List.mem_filterMap.mpr ⟨.tmp t, Array.mem_toList_iff.mpr hxm, rfl⟩))))
        obtain ⟨u, p1, p2⟩ := hV t v ((hnames t hmem).trans hv)
        show VRel ρ v (a.tmps.getD t undef)
        rw [Array.getD_eq_getD_getElem?, p1]; exact p2
      | const u =>
        simp only [evO] at hv
        cases hc : cl u with
        | true => rw [hc] at hv; cases hv; exact (cl_af hc).rel ρ
        | false => rw [hc] at hv; cases hv
      | global g => cases hv
      | func f => cases hv; exact (AF.func (by simp) (by simp)).rel ρ
    · intro p hp
      have hsome := s2 p hp
      have hlt : p.1 < h.length := (List.getElem?_eq_some_iff.mp hsome).1
      have hltf : p.1 < hf.length := by
        rcases Nat.lt_or_ge p.1 hf.length with q | q
        · exact q
        · rw [q2 p.1 hlt, LW_none (fun j hj => I.fresh p.1 q j (by omega)), List.getElem?_eq_none (Nat.le_trans I.len q)] at hsome
          cases hsome
      rw [hget _ hltf]
      have : LW D (hitH dn p.1) (valH dn p.1) (h0[p.1]?) ops.length = some p.2 := by
        rw [← hsome, q2 p.1 hlt, ← LW_prefix (Nat.le_of_lt hil)]
        refine LW_congr fun k hk hit => ?_
        by_cases hki : k = i
        · subst hki; rw [hi]; simp
        · exact hrdD p hp k hk hit hki
      rw [this]; rfl
    · intro p hp
      cases hal : l.al with
      | none => rw [hal] at hp; cases hp
      | some b =>
        rw [hal] at hp; cases hp
        have hii : hitH dn l.nid i = true := by rw [hiti]; unfold LE.put; rw [hal]; simp only; rw [lk_app]; simp
        simp only
        rw [hget _ (hin _ hii)]
        have : LW D (hitH dn l.nid) (valH dn l.nid) (h0[l.nid]?) ops.length = none := by
          have e1 : LW D (hitH dn l.nid) (valH dn l.nid) (h0[l.nid]?) ops.length = LW (fun _ => false) (hitH dn l.nid) (valH dn l.nid) (h0[l.nid]?) ops.length :=
            LW_congr fun k hk hit => by
              by_cases hki : k = i
              · subst hki; exact hi
              · exact hnew b hal k hk hki hit
          rw [e1, LW_false, List.getElem?_eq_none (by rw [s4]; exact q4)]
        rw [this]; rfl
    · intro v' ρ' w' hv hE' hR'
      refine hx _ w' ⟨ρ', hE.trans hE', ?_, henv ρ' v' hE'.sub hv, (hput v').1, (hput v').2⟩
      have hwl : ∀ p ∈ l.wr, p.1 < ((List.range hf.length).map fun id => (LW D (hitH dn id) (valH dn id) (h0[id]?) ops.length).getD ABlk.free).length := fun p hp => by
        rw [List.length_map, List.length_range]
        refine hin p.1 ?_
        rw [hiti]
        cases hq : lk l.put p.1 with
        | some b => rfl
        | none =>
          exfalso
          refine lk_none hq p ?_ rfl
          unfold LE.put; cases l.al <;> simp [hp]
      have heq : Den.hal (hset ((List.range hf.length).map fun id => (LW D (hitH dn id) (valH dn id) (h0[id]?) ops.length).getD ABlk.free) l.wr) (l.al.map (l.nid, ·)) =
          (List.range hf.length).map (fun id => (LW (fun k => if k = i then true else D k) (hitH dn id) (valH dn id) (h0[id]?) ops.length).getD .free) := by
        apply List.ext_getElem?
        intro id
        have hlen : (Den.hal (hset ((List.range hf.length).map fun id => (LW D (hitH dn id) (valH dn id) (h0[id]?) ops.length).getD ABlk.free) l.wr) (l.al.map (l.nid, ·))).length = hf.length := by
          cases l.al with
          | none => show (hset _ _).length = _; rw [hset_length, List.length_map, List.length_range]
          | some b => show ((hset _ _).set _ _).length = _; rw [List.length_set, hset_length, List.length_map, List.length_range]
        rcases Nat.lt_or_ge id hf.length with hid | hid
        · rw [range_get _ _ _ hid]
          have hL : (Den.hal (hset ((List.range hf.length).map fun id => (LW D (hitH dn id) (valH dn id) (h0[id]?) ops.length).getD ABlk.free) l.wr) (l.al.map (l.nid, ·)))[id]? =
              match lk l.put id with | some b => some b | none => some ((LW D (hitH dn id) (valH dn id) (h0[id]?) ops.length).getD .free) := by
            have hb0 := hset_get l.wr ((List.range hf.length).map fun id => (LW D (hitH dn id) (valH dn id) (h0[id]?) ops.length).getD ABlk.free) id (by simpa using hid)
            rw [hget _ hid] at hb0
            unfold LE.put
            cases hal : l.al with
            | none => exact hb0
            | some b =>
              simp only [Option.map_some]
              show ((hset _ _).set _ _)[id]? = _
              rw [lk_app]
              by_cases hx : l.nid = id
              · rw [hx, List.getElem?_set_self (by rw [hset_length, List.length_map, List.length_range]; exact hid)]; simp
              · rw [List.getElem?_set_ne hx, if_neg hx]; exact hb0
          rw [hL]
          cases hq : lk l.put id with
          | none => rw [LW_miss (by rw [hiti, hq]; rfl) hD']
          | some b =>
            have hit : hitH dn id i = true := by rw [hiti, hq]; rfl
            have hLW : LW (fun k => if k = i then true else D k) (hitH dn id) (valH dn id) (h0[id]?) ops.length = valH dn id i := by
              refine LW_at (i := i) (by simp) hit hil (fun k hk1 hk2 hit2 => ?_)
              rw [if_neg (by omega)]
              rcases mem_put (lk_mem hq) with hm | ⟨b', hal', hnid⟩
              · obtain ⟨b3, hb3⟩ := s3 _ hm
                rw [hrdD _ hb3 k hk2 hit2 (by omega)]
                exact decide_eq_false (by omega)
              · have hnid' : id = l.nid := hnid
                subst hnid'
                exact hnew b' hal' k hk2 (by omega) hit2
            rw [hLW, hvali, hq]; rfl
        · rw [List.getElem?_eq_none (by rw [hlen]; exact hid), List.getElem?_eq_none (by simpa using hid)]
      rw [heq] at hR'
      exact hR'
end
end Go.Den
namespace Go.Den
open Go Go.RowKit

def cnt (D : Nat → Bool) : Nat → Nat
  | 0 => 0
  | k + 1 => (if D k = true then 0 else 1) + cnt D k
theorem cnt_zero {D : Nat → Bool} : ∀ {n : Nat}, cnt D n = 0 → ∀ k, k < n → D k = true
  | 0, _, k, hk => by omega
  | n + 1, h, k, hk => by
    unfold cnt at h
    cases hd : D n with
    | true =>
      rw [hd] at h
      by_cases e : k = n
      · subst e; exact hd
      · exact cnt_zero (n := n) (by simpa using h) k (by omega)
    | false => rw [hd] at h; simp at h
theorem cnt_same {D D' : Nat → Bool} : ∀ {n : Nat}, (∀ k, k < n → D' k = D k) → cnt D' n = cnt D n
  | 0, _ => rfl
  | n + 1, h => by unfold cnt; rw [h n (by omega), cnt_same fun k hk => h k (by omega)]
theorem cnt_set {D D' : Nat → Bool} {i : Nat} (hi : D i = false) (h1 : D' i = true) (h2 : ∀ k, k ≠ i → D' k = D k) : ∀ {n : Nat}, i < n → cnt D' n + 1 = cnt D n
  | 0, h => by omega
  | n + 1, h => by
    unfold cnt
    by_cases e : n = i
    · subst e
      rw [h1, hi, cnt_same (n := n) fun k hk => h2 k (by omega)]; simp only [if_true, Bool.false_eq_true, if_false]; omega
    · rw [h2 n e, ← cnt_set hi h1 h2 (n := n) (by omega)]; omega
section
variable {C : Ctx} (hC : C.Ok) {N : Nat}
include hC
/-- A region whose order is open: one run in the text's order, and that what waits in no order does not meet. -/
theorem draw_intro {id : Nat} {ops : Array Oper} {Q : QA} {e : Env} {h : AHeap} (bm : List Nat) (hb : drawOk ops.toList bm = true)
    (q : wpD C N ops.toList (fun e h dn => Compat bm dn ∧ Q .normal e h) ops.toList [] e h) : SemC C N (.region id ops true) Q e h := by
  intro ρ0 w0 a0 hA
  obtain ⟨ef, hf, dn, ⟨hcp, hQ⟩, I, hlen⟩ := wpD_log hC (e0 := e) (h0 := h) ops.toList [] e h q
    ⟨(fun t => rfl), (fun id _ => rfl), (fun id _ j hj => by cases hj), Nat.le_refl _, (fun k o l hk => by cases hk)⟩ (fun k => by simp)
  have hn : dn.length = ops.toList.length := by simpa using hlen
  have hbo : befOk ops.toList bm = true := by simp only [drawOk, Bool.and_eq_true] at hb; exact hb.1
  refine wp_region_any hC.mixed ?_
  have fin : ∀ (D : Nat → Bool) (a : Act) (w : World), (∀ k, k < ops.toList.length → D k = true) → DS C N ops.toList e h dn hf ρ0 w0 D a w → Post C N ρ0 w0 Q .normal a w := by
    rintro D a w hall ⟨ρ, hE, hR, hV, hsz, hdf⟩
    refine ⟨ρ, ef, hf, .normal, hE, ⟨?_, ?_, hsz, hdf⟩, .normal, hQ⟩
    · have : (List.range hf.length).map (fun id => (LW D (hitH dn id) (valH dn id) (h[id]?) ops.toList.length).getD .free) = hf := by
        apply List.ext_getElem?
        intro id
        rcases Nat.lt_or_ge id hf.length with hid | hid
        · rw [range_get _ _ _ hid, LW_congr (D' := fun _ => true) fun k hk _ => hall k hk, ← hn, ← I.heap id hid]
          simp [hid]
        · rw [List.getElem?_eq_none (by simpa using hid), List.getElem?_eq_none hid]
      rw [this] at hR; exact hR
    · intro t v ht
      refine hV t v ?_
      rw [LW_congr (D' := fun _ => true) fun k hk _ => hall k hk, ← hn, ← I.env t]; exact ht
  have main : ∀ (fuel : Nat) (listed : Array Bool) (a : Act) (w : World), listed.size = ops.size → cnt (fun k => listed.getD k false) ops.toList.length ≤ fuel →
      (∀ j o, ops.toList[j]? = some o → listed.getD j false = true → ∀ e ∈ o.after, Region.binds .any e = true → listed.getD e.on false = true) →
      DS C N ops.toList e h dn hf ρ0 w0 (fun k => listed.getD k false) a w → wpAny C.P .any ops (Post C N ρ0 w0 Q) fuel listed a w := by
    intro fuel
    induction fuel with
    | zero =>
      intro listed a w hs hc hD S
      have hall := cnt_zero (Nat.le_zero.mp hc)
      refine ⟨?_, fin _ a w hall S⟩
      apply List.eq_nil_iff_forall_not_mem.mpr
      intro j hj
      obtain ⟨h1, o, ho, _⟩ := mem_ready.1 hj
      have hjl : j < ops.toList.length := by
        rw [Array.length_toList]; exact (Array.getElem?_eq_some_iff.1 ho).1
      have := hall j hjl
      have hjs : j < listed.size := by rw [hs]; simpa using hjl
      simp [hjs] at h1 this
      rw [h1] at this; cases this
    | succ fuel ih =>
      intro listed a w hs hc hD S
      refine ⟨fun hempty => fin _ a w ?_ S, fun i hi => ?_⟩
      · -- nothing may come up: all have
        intro k
        induction k using Nat.strongRecOn with
        | _ k ihk =>
          intro hk
          cases hkd : listed.getD k false with
          | true => rfl
          | false =>
            exfalso
            have hks : k < ops.size := by simpa using hk
            have hok : ops[k]? = some ops[k] := by simp [hks]
            have hol : ops.toList[k]? = some ops[k] := by simp [hks]
            obtain ⟨h1, _⟩ := befOk_spec hbo hol
            have : k ∈ Region.ready .any ops listed := mem_ready.2 ⟨by
              have hkl : k < listed.size := by rw [hs]; exact hks
              simp [hkl] at hkd ⊢; exact hkd, ops[k], hok, fun e he hbd => ihk e.on (h1 e he hbd) (Nat.lt_trans (h1 e he hbd) hk)⟩
            rw [hempty] at this; cases this
      · obtain ⟨h1, o, ho, hr⟩ := mem_ready.1 hi
        have his : i < ops.size := (Array.getElem?_eq_some_iff.1 ho).1
        have hil : i < listed.size := by rw [hs]; exact his
        have hol : ops.toList[i]? = some o := by simpa using ho
        have hDi : listed.getD i false = false := by simp [hil] at h1 ⊢; exact h1
        have hset : ∀ k, (listed.setIfInBounds i true).getD k false = if k = i then true else listed.getD k false := by
          intro k
          rw [Array.getD_eq_getD_getElem?, Array.getElem?_setIfInBounds]
          by_cases hk : i = k
          · subst hk; simp [hil]
          · rw [if_neg hk, if_neg (Ne.symm hk), Array.getD_eq_getD_getElem?]
        have hstep := DS.step hC I hn hb hcp hD hol hDi hr S (next := wpAny C.P .any ops (Post C N ρ0 w0 Q) fuel (listed.setIfInBounds i true)) (Q := Post C N ρ0 w0 Q) fun a' w' S' => by
          refine ih _ a' w' (by simpa using hs) ?_ ?_ ?_
          · have := cnt_set (D := fun k => listed.getD k false) (D' := fun k => (listed.setIfInBounds i true).getD k false) (i := i) hDi (by rw [hset]; simp) (fun k hk => by rw [hset, if_neg hk]) (n := ops.toList.length) (by simpa using his)
            omega
          · intro j oj hoj hj e he hbd
            rw [hset] at hj ⊢
            by_cases hji : j = i
            · subst hji
              rw [hol] at hoj; cases hoj
              rw [hr e he hbd]; simp
            · rw [if_neg hji] at hj
              rw [hD j oj hoj hj e he hbd]; simp
          · have : (fun k => (listed.setIfInBounds i true).getD k false) = fun k => if k = i then true else listed.getD k false := funext hset
            rw [this]; exact S'
        unfold wpOp
        simp only [ho]
        rw [Array.toArray_toList] at hstep
        split
        · rename_i hw
          rw [if_pos hw] at hstep
          exact .inl hstep
        · rename_i hw
          rw [if_neg hw] at hstep
          exact hstep
  refine main ops.size _ a0 _ (by simp) ?_ ?_ ?_
  · have : ∀ n, cnt (fun k => (Array.replicate ops.size false).getD k false) n ≤ n := by
      intro n
      induction n with
      | zero => exact Nat.le_refl _
      | succ n ih => unfold cnt; split <;> omega
    have := this ops.toList.length
    simpa using this
  · intro j o _ hj
    exfalso
    rw [Array.getD_eq_getD_getElem?, Array.getElem?_replicate] at hj
    split at hj <;> simp at hj
  · have hfalse : (fun k => (Array.replicate ops.size false).getD k false) = fun _ => false := by
      funext k
      rw [Array.getD_eq_getD_getElem?, Array.getElem?_replicate]
      split <;> rfl
    rw [hfalse]
    refine ⟨ρ0, ext_drawn ρ0 w0 _, ?_, ?_, hA.size, hA.defers⟩
    · have : (List.range hf.length).map (fun id => (LW (fun _ => false) (hitH dn id) (valH dn id) (h[id]?) ops.toList.length).getD .free) = h ++ List.replicate (hf.length - h.length) .free := by
        apply List.ext_getElem?
        intro id
        have hle := I.len
        rcases Nat.lt_or_ge id hf.length with hid | hid
        · rw [range_get _ _ _ hid, LW_false]
          rcases Nat.lt_or_ge id h.length with q | q
          · rw [List.getElem?_append_left q]; simp [q]
          · rw [List.getElem?_append_right q, List.getElem?_eq_none q, List.getElem?_replicate, if_pos (by omega)]; rfl
        · rw [List.getElem?_eq_none (by simpa using hid), List.getElem?_eq_none (by simp; omega)]
      rw [this]
      exact rel_drawn (rel_free hA.rel _) _
    · intro t v ht
      rw [LW_false] at ht
      exact hA.env t v ht
end
end Go.Den
namespace Go.Den
open Go Go.RowKit
def offB (a b : LE) : Bool := (a.put.all fun p => b.rd.all fun q => !Nat.beq p.1 q.1) && (b.wr.all fun p => a.rd.all fun q => !Nat.beq p.1 q.1)
theorem offB_ok {a b : LE} (h : offB a b = true) : Apart2 a b := by
  simp only [offB, Bool.and_eq_true, List.all_eq_true] at h
  refine ⟨fun p hp q hq e => ?_, fun p hp q hq e => ?_⟩
  · have := h.1 p hp q hq
    rw [e] at this; simp at this
  · have := h.2 p hp q hq
    rw [e] at this; simp at this
def cpt (bm : List Nat) (dn : List LE) : Bool := (List.range dn.length).all fun j => (List.range j).all fun i => bef bm i j || match dn[i]?, dn[j]? with
  | some a, some b => offB a b
  | _, _ => true
theorem cpt_ok {bm : List Nat} {dn : List LE} (h : cpt bm dn = true) : Compat bm dn := by
  intro i j a b hij ha hb hbef
  have hj := (List.getElem?_eq_some_iff.mp hb).1
  have h1 := List.all_eq_true.mp h j (List.mem_range.mpr hj)
  have h2 := List.all_eq_true.mp h1 i (List.mem_range.mpr hij)
  rw [ha, hb, hbef] at h2
  exact offB_ok (by simpa using h2)
/-- A region whose order is open. -/
theorem draw_go {C : Ctx} (hC : C.Ok) {N : Nat} {id : Nat} {ops : Array Oper} {Q : QA} {e : Env} {h : AHeap} (hb : drawOk ops.toList (befM ops.toList) = true)
    (q : wpD C N ops.toList (fun e h dn => Compat (befM ops.toList) dn ∧ Q .normal e h) ops.toList [] e h) : SemC C N (.region id ops true) Q e h := draw_intro hC _ hb q
theorem brP.t {b : Bool} {y n : Prop} (h : b = true) (q : y) : brP b y n := by subst h; exact q
theorem brP.f {b : Bool} {y n : Prop} (h : b = false) (q : n) : brP b y n := by subst h; exact q
end Go.Den
namespace Go.Den
open Go Go.RowKit

/-! ### what lies behind may be forgotten -/
def cut (ρ : Ren) (n : Nat) : Ren := fun i => bif Nat.blt i n then ρ i else none
theorem cut_some {ρ : Ren} {n i : Nat} {l : Loc} (h : cut ρ n i = some l) : i < n ∧ ρ i = some l := by
  unfold cut at h
  cases hb : Nat.blt i n with
  | true => rw [hb] at h; exact ⟨Nat.le_of_ble_eq_true hb, h⟩
  | false => rw [hb] at h; cases h
theorem cut_of {ρ : Ren} {n i : Nat} {l : Loc} (hi : i < n) (h : ρ i = some l) : cut ρ n i = some l := by
  unfold cut
  rw [show Nat.blt i n = true from Nat.ble_eq_true_of_le hi]; exact h
theorem cut_sub (ρ : Ren) (n : Nat) : Sub (cut ρ n) ρ := fun i l h => (cut_some h).2
/-- A value that looks at no block from n on. -/
def Low (n : Nat) (v : Value) : Prop := ∀ (ρ : Ren) (v' : Value), VRel ρ v v' → VRel (cut ρ n) v v'
theorem Low.af {n : Nat} {v : Value} (h : AF v) : Low n v := fun ρ v' hv => by rw [h.eq hv]; exact h.rel _
theorem Low.int {n : Nat} (k : IntKind) (a : Int) : Low n (.int k a) := .af (.int k a)
theorem Low.ptr {n i o : Nat} (h : i < n) : Low n (.pointer (some ⟨i, o, none⟩)) := fun ρ v' hv => by
  cases hv with
  | ptr _ _ l hl => exact .ptr i o l (cut_of h hl)
theorem Low.slice {n i o k c : Nat} (h : i < n) : Low n (.slice (some ⟨i, o, none⟩) k c) := fun ρ v' hv => by
  cases hv with
  | slice _ _ _ _ l c' hl h1 h2 h3 h4 => exact .slice i o k c l c' (cut_of h hl) h1 h2 h3 h4
  | slice0 _ _ l x hl => exact .slice0 i o l x (cut_of h hl)
theorem Low.map {n i : Nat} (h : i < n) : Low n (.map (some i)) := fun ρ v' hv => by
  cases hv with
  | map _ l hl => exact .map i l (cut_of h hl)
theorem Low.agg {n : Nat} {a : Array Value} (h : ∀ v ∈ a, Low n v) : Low n (.agg a) := fun ρ v' hv => by
  cases hv with
  | agg _ a' h1 h2 => exact .agg a a' h1 fun i u u' p q => h u (Array.mem_of_getElem? p) ρ u' (h2 i u u' p q)
theorem Low.func {n : Nat} {f : Fn} {a b : Array Value} (h : ∀ v ∈ a, Low n v) (k : ∀ v ∈ b, Low n v) : Low n (.func f a b) := fun ρ v' hv => by
  cases hv with
  | func _ _ a' _ b' h1 h2 h3 h4 => exact .func f a a' b b' h1 (fun i u u' p q => h u (Array.mem_of_getElem? p) ρ u' (h2 i u u' p q)) h3 (fun i u u' p q => k u (Array.mem_of_getElem? p) ρ u' (h4 i u u' p q))
/-- The test on a value that is told by its parts. -/
def low1 (n : Nat) : Value → Bool
  | .pointer (some ⟨i, _, none⟩) => Nat.blt i n
  | .slice (some ⟨i, _, none⟩) _ _ => Nat.blt i n
  | .map (some i) => Nat.blt i n
  | .bool _ | .int _ _ | .string _ | .pointer none | .slice none _ _ | .map none | .nilFunc | .nilIface => true
  | _ => false
theorem low1_ok {n : Nat} {v : Value} (h : low1 n v = true) : Low n v := by
  unfold low1 at h
  split at h
  · exact .ptr (Nat.le_of_ble_eq_true h)
  · exact .slice (Nat.le_of_ble_eq_true h)
  · exact .map (Nat.le_of_ble_eq_true h)
  · exact .af (.bool _)
  · exact .af (.int _ _)
  · exact .af (.string _)
  · exact .af .ptrN
  · exact .af (.sliceN _ _)
  · exact .af .mapN
  · exact .af .nilFunc
  · exact .af .nilIface
  · cases h
def lowV (n : Nat) : Value → Bool
  | .agg a => a.toList.all (low1 n)
  | v => low1 n v
theorem lowV_ok {n : Nat} {v : Value} (h : lowV n v = true) : Low n v := by
  unfold lowV at h
  split at h
  · exact .agg fun v hv => low1_ok (List.all_eq_true.mp h v (Array.mem_toList_iff.mpr hv))
  · exact low1_ok h
def LowB (n : Nat) : ABlk → Prop
  | .cells cs _ _ _ _ => ∀ v ∈ cs, Low n v
  | .map es _ => ∀ e ∈ es, Low n e.val
  | _ => True
def lowB (n : Nat) : ABlk → Bool
  | .cells cs _ _ _ _ => cs.all (lowV n)
  | .map _ _ => false
  | _ => true
theorem lowB_ok {n : Nat} {b : ABlk} (h : lowB n b = true) : LowB n b := by
  cases b <;> simp only [lowB, LowB] at *
  · intro v hv; exact lowV_ok (List.all_eq_true.mp h v hv)
  · cases h
theorem BRel.cut {ρ : Ren} {l : Loc} {w : World} {n : Nat} : ∀ {b : ABlk}, LowB n b → BRel ρ l w b → BRel (cut ρ n) l w b
  | .free, _, h => h
  | .dead, _, _ => trivial
  | .cells cs sz wr sp ty, hl, ⟨h1, h2, h3, h4, h5, h6, c, e, fr, hty, h7, h8, h9, h10⟩ =>
    ⟨h1, h2, h3, h4, h5, h6, c, e, fr, hty, h7, h8, fun k v hk => let ⟨v', p, q⟩ := h9 k v hk; ⟨v', p, hl v (List.mem_of_getElem? hk) ρ v' q⟩, h10⟩
  | .iter s' pos, _, ⟨h1, h0, h2⟩ => ⟨h1, h0, h2⟩
  | .map es ck, hl, ⟨h1, es', h2, h3, h4⟩ => ⟨h1, es', h2, h3, fun k e hk => let ⟨e', p, q, r, t, u⟩ := h4 k e hk; ⟨e', p, q, r, t, hl e (List.mem_of_getElem? hk) ρ e'.val u⟩⟩
theorem Rel.cut {W0 : World} {ρ : Ren} {h g : AHeap} {w : World} (hR : Rel W0 ρ (h ++ g) w) (hl : ∀ b ∈ h, LowB h.length b) : Rel W0 (cut ρ h.length) h w := by
  have hg : ∀ {i : Nat} {b : ABlk}, h[i]? = some b → (h ++ g)[i]? = some b := fun {i b} hb => by rw [List.getElem?_append_left (List.getElem?_eq_some_iff.mp hb).1]; exact hb
  refine ⟨fun i l b hi hb => (hR.blk i l b (cut_some hi).2 (hg hb)).cut (hl b (List.mem_of_getElem? hb)), fun i l hi => (cut_some hi).1, fun i j l m b c hi hj hne hb hbl hc hcl hw => hR.sep i j l m b c (cut_some hi).2 (cut_some hj).2 hne (hg hb) hbl (hg hc) hcl hw, hR.low, fun i l hi => hR.high i l (cut_some hi).2, fun i l hi => hR.room i l (cut_some hi).2⟩
theorem Ext.cut {ρ0 ρ : Ren} {w0 w : World} {n : Nat} (hE : Ext ρ0 w0 ρ w) (hd : ∀ i l, ρ0 i = some l → i < n) : Ext ρ0 w0 (cut ρ n) w :=
  ⟨fun i l h => cut_of (hd i l h) (hE.sub i l h), fun i l h => hE.own i l (cut_some h).2, hE.size, hE.keep, hE.os, hE.tape, hE.output⟩
/-- Some of what is known of the temporaries. -/
abbrev TEnv := List (Nat × Value)
def mkE : TEnv → Env
  | [] => []
  | (t, v) :: r => (t, some v) :: mkE r
def subE : TEnv → Env → Prop
  | [], _ => True
  | (t, v) :: r, e => e.get t = some v ∧ subE r e
theorem mkE_cons (u : Nat) (x : Value) (r : TEnv) (t : Nat) : Env.get (mkE ((u, x) :: r)) t = bif Nat.beq u t then some x else Env.get (mkE r) t := rfl
theorem subE_get : ∀ {l : TEnv} {e : Env}, subE l e → ∀ t v, Env.get (mkE l) t = some v → e.get t = some v
  | [], e, _, t, v, h => by cases h
  | (u, x) :: r, e, hs, t, v, h => by
    rw [mkE_cons] at h
    cases hb : Nat.beq u t with
    | true =>
      rw [hb] at h; cases h
      have := Nat.eq_of_beq_eq_true hb
      subst this; exact hs.1
    | false => rw [hb] at h; exact subE_get hs.2 t v h
theorem env_mem : ∀ {l : TEnv} {t : Nat} {v : Value}, Env.get (mkE l) t = some v → (t, v) ∈ l
  | [], t, v, h => by cases h
  | (u, x) :: r, t, v, h => by
    rw [mkE_cons] at h
    cases hb : Nat.beq u t with
    | true =>
      rw [hb] at h; cases h
      have := Nat.eq_of_beq_eq_true hb
      subst this; exact List.mem_cons_self ..
    | false => rw [hb] at h; exact List.mem_cons_of_mem _ (env_mem h)
theorem low_env {n : Nat} {l : TEnv} (h : (l.all fun p => lowV n p.2) = true) : ∀ p ∈ l, Low n p.2 := fun p hp => lowV_ok (List.all_eq_true.mp h p hp)
theorem low_heap {n : Nat} {h : AHeap} (k : h.all (lowB n) = true) : ∀ b ∈ h, LowB n b := fun b hb => lowB_ok (List.all_eq_true.mp k b hb)
section
variable {C : Ctx} (hC : C.Ok) {N : Nat}
include hC
/-- A loop, by what is known at the head of each round: temporaries and memory, out of a ghost; what lies behind is forgotten. -/
theorem loop_fix {α : Type} {c : Code} {Q : QA} {e : Env} {h : AHeap} (E : α → TEnv) (H : α → AHeap) (μ : α → Nat) (a0 : α)
    (hn : ∀ a, (H a0).length ≤ (H a).length) (hlE : ∀ a, ∀ p ∈ E a, Low (H a).length p.2) (hlH : ∀ a, ∀ b ∈ H a, LowB (H a).length b) (h0 : h = H a0 ∧ subE (E a0) e)
    (round : ∀ a, wpC C N c (thenA (fun e' h' => ∃ a', μ a' < μ a ∧ subE (E a') e' ∧ ∃ g, h' = H a' ++ g) Q) (mkE (E a)) (H a)) : SemC C N (.loop c) Q e h := by
  intro ρ w a hA
  obtain ⟨rfl, h0⟩ := h0
  refine wp_loop_ghost (fun n a' w' => ∃ α ρ', μ α = n ∧ Ext ρ w ρ' w' ∧ At C N ρ' (mkE (E α)) (H α) a' w') (μ a0) ⟨a0, ρ, rfl, Ext.refl ρ w, ⟨hA.rel, fun t v k => hA.env t v (subE_get h0 t v k), hA.size, hA.defers⟩⟩ ?_
  rintro n a' w' ⟨α, ρ', rfl, hE, hA'⟩
  refine wp_mono (wpC_sound hC c _ _ _ (round α) ρ' w' a' hA') ?_
  rintro x a2 w2 ⟨ρ2, e2, h2, ax, hE2, hA2, hX, q'⟩
  cases hX with
  | normal =>
    obtain ⟨α', hlt, hs, g, rfl⟩ := q'
    refine ⟨μ α', hlt, α', cut ρ2 (H α').length, rfl, (hE.trans hE2).cut fun i l hi => Nat.lt_of_lt_of_le (hA.rel.dom i l hi) (hn α'), ⟨hA2.rel.cut (hlH α'), fun t v k => ?_, hA2.size, hA2.defers⟩⟩
    obtain ⟨v', p, q⟩ := hA2.env t v (subE_get hs t v k)
    exact ⟨v', p, hlE α' (t, v) (env_mem k) ρ2 v' q⟩
  | exit id => exact ⟨ρ2, e2, h2, _, hE.trans hE2, hA2, .exit id, q'⟩
  | ret => exact ⟨ρ2, e2, h2, _, hE.trans hE2, hA2, .ret, q'⟩
  | pan v v' hv => exact ⟨ρ2, e2, h2, _, hE.trans hE2, hA2, .pan v v' hv, q'⟩
end
end Go.Den
namespace Go.Den
open Go Go.RowKit
theorem BRel.narrow {ρ ρ' : Ren} (s : Sub ρ ρ') {l : Loc} {w w' : World} : ∀ {b : ABlk}, BRel ρ l w b → BRel ρ' l w' b → BRel ρ l w' b
  | .free, h, _ => h
  | .dead, _, _ => trivial
  | .cells cs sz wr sp ty, ⟨_, _, _, _, _, _, c0, e0, fr0, _, _, _, g9, _⟩, ⟨h1, h2, h3, h4, h5, h6, c, e, fr, hty, h7, h8, h9, h10⟩ =>
    ⟨h1, h2, h3, h4, h5, h6, c, e, fr, hty, h7, h8, fun k v hk => let ⟨v', p, q⟩ := h9 k v hk; let ⟨_, _, q0⟩ := g9 k v hk; ⟨v', p, q0.narrow s q⟩, h10⟩
  | .iter s' pos, _, ⟨h1, h0, h2⟩ => ⟨h1, h0, h2⟩
  | .map es ck, ⟨_, es0, _, _, g4⟩, ⟨h1, es', h2, h3, h4⟩ => ⟨h1, es', h2, h3, fun k e hk => let ⟨e', p, q, r, t, u⟩ := h4 k e hk; let ⟨_, _, _, _, _, u0⟩ := g4 k e hk; ⟨e', p, q, r, t, u0.narrow s u⟩⟩
theorem Rel.quiet {W0 : World} {ρ ρ' : Ren} {h g : AHeap} {w w' : World} (hR : Rel W0 ρ h w) (hR' : Rel W0 ρ' (h ++ g) w') (hE : Ext ρ w ρ' w') : Rel W0 ρ h w' ∧ Ext ρ w ρ w' := by
  have hg : ∀ {i : Nat} {b : ABlk}, h[i]? = some b → (h ++ g)[i]? = some b := fun {i b} hb => by rw [List.getElem?_append_left (List.getElem?_eq_some_iff.mp hb).1]; exact hb
  exact ⟨⟨fun i l b hi hb => (hR.blk i l b hi hb).narrow hE.sub (hR'.blk i l b (hE.sub i l hi) (hg hb)), hR.dom,
      fun i j l m b c hi hj hne hb hbl hc hcl hw => hR'.sep i j l m b c (hE.sub i l hi) (hE.sub j m hj) hne (hg hb) hbl (hg hc) hcl hw, hR'.low, hR.high, fun i l hi => hR'.room i l (hE.sub i l hi)⟩,
    ⟨Sub.refl ρ, fun i l h k => .inl ⟨i, l, h, k, rfl⟩, hE.size, hE.keep, hE.os, hE.tape, hE.output⟩⟩
/-- A block whose values look at no block. -/
def BAF : ABlk → Prop
  | .cells cs _ _ _ _ => ∀ v ∈ cs, AF v
  | .map es _ => ∀ e ∈ es, AF e.val
  | _ => True
theorem BRel.af {ρ ρ' : Ren} {l : Loc} {w : World} : ∀ {b : ABlk}, BAF b → BRel ρ l w b → BRel ρ' l w b
  | .free, _, h => h
  | .dead, _, _ => trivial
  | .cells cs sz wr sp ty, ha, ⟨h1, h2, h3, h4, h5, h6, c, e, fr, hty, h7, h8, h9, h10⟩ =>
    ⟨h1, h2, h3, h4, h5, h6, c, e, fr, hty, h7, h8, fun k v hk => let ⟨v', p, q⟩ := h9 k v hk; ⟨v', p, by have av := ha v (List.mem_of_getElem? hk); rw [av.eq q]; exact av.rel ρ'⟩, h10⟩
  | .iter s' pos, _, ⟨h1, h0, h2⟩ => ⟨h1, h0, h2⟩
  | .map es ck, ha, ⟨h1, es', h2, h3, h4⟩ => ⟨h1, es', h2, h3, fun k e hk => let ⟨e', p, q, r, t, u⟩ := h4 k e hk; ⟨e', p, q, r, t, by have av := ha e (List.mem_of_getElem? hk); rw [av.eq u]; exact av.rel ρ'⟩⟩
def emb (is : List Nat) (ρ : Ren) : Ren := fun k => match is[k]? with
  | some i => ρ i
  | none => none
theorem emb_some {is : List Nat} {ρ : Ren} {k : Nat} {l : Loc} (h : emb is ρ k = some l) : ∃ i, is[k]? = some i ∧ ρ i = some l := by
  unfold emb at h
  split at h
  · rename_i i hi; exact ⟨i, hi, h⟩
  · cases h
theorem emb_of {is : List Nat} {ρ : Ren} {k i : Nat} {l : Loc} (h : is[k]? = some i) (hi : ρ i = some l) : emb is ρ k = some l := by
  unfold emb; rw [h]; exact hi
theorem Rel.emb {W0 : World} {ρ : Ren} {h h0 : AHeap} {w : World} {is : List Nat} (hR : Rel W0 ρ h w) (hlen : is.length = h0.length) (hnd : ∀ k j i : Nat, is[k]? = some i → is[j]? = some i → k = j)
    (hb : ∀ k i : Nat, is[k]? = some i → h[i]? = h0[k]?) (hc : ∀ b ∈ h0, BAF b) : Rel W0 (Go.Den.emb is ρ) h0 w := by
  refine ⟨fun k l b hk hkb => ?_, fun k l hk => ?_, fun k j l m b c hk hj hne hkb hbl hjc hcl hw => ?_, hR.low, fun k l hk hw => ?_, fun k l hk => ?_⟩
  · obtain ⟨i, e, hi⟩ := emb_some hk
    exact (hR.blk i l b hi ((hb k i e).trans hkb)).af (hc b (List.mem_of_getElem? hkb))
  · obtain ⟨i, e, hi⟩ := emb_some hk
    rw [← hlen]; exact (List.getElem?_eq_some_iff.mp e).1
  · obtain ⟨i, e, hi⟩ := emb_some hk
    obtain ⟨i', e', hi'⟩ := emb_some hj
    exact hR.sep i i' l m b c hi hi' (fun z => hne (hnd k j i e (z ▸ e'))) ((hb k i e).trans hkb) hbl ((hb j i' e').trans hjc) hcl hw
  · obtain ⟨i, e, hi⟩ := emb_some hk; exact hR.high i l hi hw
  · obtain ⟨i, e, hi⟩ := emb_some hk; exact hR.room i l hi
theorem Rel.unemb {W0 : World} {ρ ρ' : Ren} {h h0 g : AHeap} {w w' : World} {is : List Nat} (hR : Rel W0 ρ h w) (hlen : is.length = h0.length)
    (hb : ∀ k i : Nat, is[k]? = some i → h[i]? = h0[k]?) (hc : ∀ b ∈ h0, BAF b) (hlv : ∀ b ∈ h0, b.live = true) (hE : Ext (Go.Den.emb is ρ) w ρ' w') (hR' : Rel W0 ρ' (h0 ++ g) w') : Rel W0 ρ h w' ∧ Ext ρ w ρ w' := by
  have hg : ∀ {k : Nat} {b : ABlk}, h0[k]? = some b → (h0 ++ g)[k]? = some b := fun {k b} q => by rw [List.getElem?_append_left (List.getElem?_eq_some_iff.mp q).1]; exact q
  have hblk : ∀ (i : Nat) (l : Loc) (b : ABlk), ρ i = some l → h[i]? = some b → BRel ρ l w' b := by
    intro i l b hi hib
    by_cases hm : ∃ k : Nat, is[k]? = some i
    · obtain ⟨k, hk⟩ := hm
      have hkb : h0[k]? = some b := (hb k i hk).symm.trans hib
      exact (hR'.blk k l b (hE.sub k l (emb_of hk hi)) (hg hkb)).af (hc b (List.mem_of_getElem? hkb))
    · have hB := hR.blk i l b hi hib
      cases b with
      | free => exact hB
      | dead => trivial
      | cells cs sz wr sp ty =>
        refine hB.mono (Sub.refl ρ) (hE.keep l.blk (hR.room i l hi) fun k m hk hw z => ?_)
        obtain ⟨j, e, hj⟩ := emb_some hk
        have hkl : k < h0.length := by rw [← hlen]; exact (List.getElem?_eq_some_iff.mp e).1
        exact hR.sep j i m l h0[k] _ hj hi (fun z => hm ⟨k, z ▸ e⟩) ((hb k j e).trans (by simp [hkl])) (hlv _ (List.getElem_mem hkl)) hib rfl hw z
      | iter s pos =>
        refine hB.mono (Sub.refl ρ) (hE.keep l.blk (hR.room i l hi) fun k m hk hw z => ?_)
        obtain ⟨j, e, hj⟩ := emb_some hk
        have hkl : k < h0.length := by rw [← hlen]; exact (List.getElem?_eq_some_iff.mp e).1
        exact hR.sep j i m l h0[k] _ hj hi (fun z => hm ⟨k, z ▸ e⟩) ((hb k j e).trans (by simp [hkl])) (hlv _ (List.getElem_mem hkl)) hib rfl hw z
      | map es ck =>
        refine hB.mono (Sub.refl ρ) (hE.keep l.blk (hR.room i l hi) fun k m hk hw z => ?_)
        obtain ⟨j, e, hj⟩ := emb_some hk
        have hkl : k < h0.length := by rw [← hlen]; exact (List.getElem?_eq_some_iff.mp e).1
        exact hR.sep j i m l h0[k] _ hj hi (fun z => hm ⟨k, z ▸ e⟩) ((hb k j e).trans (by simp [hkl])) (hlv _ (List.getElem_mem hkl)) hib rfl hw z
  refine ⟨⟨hblk, hR.dom, hR.sep, hR'.low, hR.high, fun i l hi => Nat.lt_of_lt_of_le (hR.room i l hi) hE.size⟩, ⟨Sub.refl ρ, fun i l h k => .inl ⟨i, l, h, k, rfl⟩, hE.size, fun b hbs hk => hE.keep b hbs fun k l hk' hw => ?_, hE.os, hE.tape, hE.output⟩⟩
  obtain ⟨i, e, hi⟩ := emb_some hk'
  exact hk i l hi hw
section
variable {C : Ctx}
/-- A call told over the few blocks that it looks at, set into any memory that holds them. -/
theorem CallP.embed {f : FuncId} {args0 args : List Value} {h0 h : AHeap} {r : Value} (is : List Nat) (hr : AF r) (p : CallP C f args0 h0 (fun v h' => v = r ∧ ∃ g, h' = h0 ++ g) (fun _ _ => False))
    (hlen : is.length = h0.length) (hnd : ∀ k j i : Nat, is[k]? = some i → is[j]? = some i → k = j) (hb : ∀ k i : Nat, is[k]? = some i → h[i]? = h0[k]?) (hc : ∀ b ∈ h0, BAF b) (hlv : ∀ b ∈ h0, b.live = true)
    (hA : ∀ (ρ : Ren) (args' : List Value), LRel ρ args args' → LRel (Go.Den.emb is ρ) args0 args') {K E : KV} (hk : K r h) : CallP C f args h K E := by
  refine ⟨p.enters, fun ρ w args' hR hL => ?_⟩
  refine (p.calls _ w _ (hR.emb hlen hnd hb hc) (hA ρ args' hL)).mono fun en w' q => ?_
  cases en with
  | returned v' =>
    obtain ⟨ρ', u, h', hE, hR', hV, rfl, g, rfl⟩ := q
    obtain ⟨a, b⟩ := hR.unemb hlen hb hc hlv hE hR'
    exact ⟨ρ, _, h, b, a, by rw [hr.eq hV]; exact hr.rel ρ, hk⟩
  | panicked ch => obtain ⟨_, _, _, _, _, _, _, _, z⟩ := q; exact z.elim
  | outgrown => exact q.elim
/-- A call that leaves the memory as it was and answers r (no address in it). -/
theorem CallP.quiet {f : FuncId} {args : List Value} {h : AHeap} {r : Value} (hr : AF r) (p : CallP C f args h (fun v h' => v = r ∧ ∃ g, h' = h ++ g) (fun _ _ => False)) {K E : KV} (hk : K r h) : CallP C f args h K E := by
  refine ⟨p.enters, fun ρ w args' hR hL => ?_⟩
  refine (p.calls ρ w _ hR hL).mono fun en w' q => ?_
  cases en with
  | returned v' =>
    obtain ⟨ρ', u, h', hE, hR', hV, rfl, g, rfl⟩ := q
    obtain ⟨a, b⟩ := hR.quiet hR' hE
    exact ⟨ρ, _, h, b, a, by rw [hr.eq hV]; exact hr.rel ρ, hk⟩
  | panicked ch => obtain ⟨_, _, _, _, _, _, _, _, z⟩ := q; exact z.elim
  | outgrown => exact q.elim
end
end Go.Den
namespace Go.Den
open Go Go.RowKit
/-- The same, told anew. -/
theorem wpC.here {C : Ctx} {N : Nat} {c : Code} {Q : QA} {e e' : Env} {h h' : AHeap} (he : e = e') (hh : h = h') (q : wpC C N c Q e' h') : wpC C N c Q e h := by subst he; subst hh; exact q
/-- What a comparison of like things answers. -/
theorem ne_same2 (x y : Int) : (!(decide (x = x) && (decide (y = y) && true))) = false := by simp
theorem ne_same (x : Int) : (!decide (x = x)) = false := by simp
end Go.Den
