import Derived.Test.YtkocmbgpiidkdaaGreatDoorDenA
import Derived.Laws.IdiomStrings
import Derived.Lib.OthersKept
import Derived.Lib.Builder
import Derived.Lib.UnsafeStr
import Derived.Scope
import Derived.Deep.LoopGhost
import Derived.LoopN
set_option linter.unusedVariables false
set_option linter.unusedSimpArgs false
set_option linter.unusedSectionVars false
set_option linter.constructorNameAsVariable false
namespace Go.Den
open Go Go.RowKit
section
variable {P : Program} {W0 : World} {o : Oper} {e : Env}
/-- The cells of bytes. -/
def byteV (l : List UInt8) : List Value := l.map fun b => .int .u8 b.toNat
theorem byteV_cl (l : List UInt8) : (byteV l).all cl1 = true := by
  rw [List.all_eq_true]; intro v hv; obtain ⟨b, _, rfl⟩ := List.mem_map.mp hv; rfl
theorem byteV_length (l : List UInt8) : (byteV l).length = l.length := by simp [byteV]
theorem does_convBS {T : Tys} (hT : TysOk P T) {src dst et : TypeId} {si di ei : TyI} (hs : T.get src = some si) (hd : T.get dst = some di) (he : T.get et = some ei) {eb : Nat} {ea : Bool} {ez : List Value} (hss : si.sh = .slice 1 eb ea ez et) (hds : di.sh = .string)
    (hes : ei.sh = .int .u8) {x : Operand} {i off n c : Nat} {cs : List Value} {wr sp : Bool} {ty : TypeId} {l : List UInt8} (ho : o.op = .convert src dst x) (hx : evO e x = some (.slice (some ⟨i, off, none⟩) n c)) (hn : 0 < n)
    (hl : (cs.drop off).take n = byteV l) (hle : off + n ≤ cs.length) : OpSem P W0 o e [(i, .cells cs 1 wr sp ty)] [] [] (some (.string ⟨l.toArray⟩)) := .of_run fun ρ h w a hR hO hrd => by
  have h1 := (hT src si hs).2; rw [hss] at h1
  have h2 := (hT dst di hd).2; rw [hds] at h2
  have h3 := (hT et ei he).2; rw [hes] at h3
  obtain ⟨q, c', hq, e1, _⟩ := slice_inv (hO x (by simp [ho, Op.operands]) _ hx) hn
  obtain ⟨ds, d1, d2, d3⟩ := cells_part (rd_blk hR hq (hrd _ (List.mem_singleton.mpr rfl))) off n hle
  have hll : l.length = n := by
    have := congrArg List.length hl
    rw [byteV_length, List.length_take, List.length_drop] at this; omega
  have hds' : ds = byteV l := by
    apply List.ext_getElem?
    intro j
    by_cases hj : j < n
    · have p1 : ((cs.drop off).take n)[j]? = some (Value.int .u8 ((l[j]'(by omega)).toNat : Int)) := by
        rw [hl]; unfold byteV; simp [hj, hll]
      have p2 : ds[j]? = some (ds[j]'(by omega)) := by simp [d1, hj]
      rw [p2, (AF.int _ _).eq (d3 j _ _ p1 p2), ← hl, p1]
    · rw [List.getElem?_eq_none (by omega), List.getElem?_eq_none (by rw [byteV_length]; omega)]
  refine ⟨_, .string _, ?_⟩
  have hr := run_convert_bytes_back (P := P) w src dst et ⟨q.blk, q.off + off, none⟩ c' l h1.1 h3 h2 (fun j hj => by
    rw [add_plain]
    refine d2 j _ ?_
    rw [hds']; unfold byteV; simp [hj])
  rw [hll] at hr
  simp [execOp, ho, e1, hr]
theorem does_convBN {T : Tys} (hT : TysOk P T) {src dst et : TypeId} {si di ei : TyI} (hs : T.get src = some si) (hd : T.get dst = some di) (he : T.get et = some ei) {eb esz : Nat} {ea : Bool} {ez : List Value} (hss : si.sh = .slice esz eb ea ez et) (hds : di.sh = .string)
    (hes : ei.sh = .int .u8) {x : Operand} {p : Option Addr} {c : Nat} (ho : o.op = .convert src dst x) (hx : evO e x = some (.slice p 0 c)) : OpSem P W0 o e [] [] [] (some (.string ⟨#[]⟩)) := .of_run fun ρ h w a hR hO hrd => by
  have h1 := (hT src si hs).2; rw [hss] at h1
  have h2 := (hT dst di hd).2; rw [hds] at h2
  have h3 := (hT et ei he).2; rw [hes] at h3
  have hv := hO x (by simp [ho, Op.operands]) _ hx
  refine ⟨_, .string _, ?_⟩
  obtain ⟨v', hv'⟩ : ∃ v', a.eval x = v' := ⟨_, rfl⟩
  rw [hv'] at hv
  cases hv with
  | sliceN _ _ =>
    have hr := run_convert_bytes_nil (P := P) w src et h1.1 h3 0 c dst h2
    simp [execOp, ho, hv', hr]; rfl
  | slice i off _ _ q c' hq _ _ _ _ =>
    have hr := run_convert_bytes_back (P := P) w src dst et ⟨q.blk, q.off + off, none⟩ c' [] h1.1 h3 h2 (fun j hj => by cases hj)
    simp only [List.length_nil] at hr
    simp [execOp, ho, hv', hr]
  | slice0 i off q y hq =>
    have hr := run_convert_bytes_back (P := P) w src dst et ⟨q.blk, y, none⟩ 0 [] h1.1 h3 h2 (fun j hj => by cases hj)
    simp only [List.length_nil] at hr
    simp [execOp, ho, hv', hr]
theorem does_convSB {T : Tys} (hT : TysOk P T) {src dst et : TypeId} {si di ei : TyI} (hs : T.get src = some si) (hd : T.get dst = some di) (he : T.get et = some ei) {eb : Nat} {ea : Bool} {ez : List Value} (hss : si.sh = .string) (hds : di.sh = .slice 1 eb ea ez et)
    (hes : ei.sh = .int .u8) {x : Operand} {s : ByteArray} (nid : Nat) (ho : o.op = .convert src dst x) (hx : evO e x = some (.string s)) :
    OpSem P W0 o e [] [] [(nid, .cells (byteV s.data.toList) 1 true true et)] (some (.slice (some ⟨nid, 0, none⟩) s.size s.size)) := by
  intro ρ h w a hR hO hrd hal next Q hnext
  have hf := hal _ (List.mem_singleton.mpr rfl)
  have h1 := (hT src si hs).2; rw [hss] at h1
  have h2 := (hT dst di hd).2; rw [hds] at h2
  have h3 := (hT et ei he).2; rw [hes] at h3
  have e1 := (AF.string s).eq (hO x (by simp [ho, Op.operands]) _ hx)
  have hr := run_bytes_of_string (P := P) w src dst et s h1 h2.1 h3
  have hcap : s.size ≤ grownCap w s.size 0 et := by show s.size ≤ s.size + _; omega
  have hbr : (bytesRow s (grownCap w s.size 0 et)).toList = byteV s.data.toList ++ List.replicate (grownCap w s.size 0 et - s.size) (.int .u8 0) := by
    simp [bytesRow, byteV]
  have hsz : (bytesRow s (grownCap w s.size 0 et)).size = grownCap w s.size 0 et := by
    rw [← Array.length_toList, hbr]; simp [byteV]; omega
  have hl8 : (byteV s.data.toList).length = s.size := by simp [byteV]
  have hall := rel_alloc hR.drew hf (.cells (bytesRow s (grownCap w s.size 0 et)) et ((bytesRow s (grownCap w s.size 0 et)).size, (bytesRow s (grownCap w s.size 0 et)).size + 1)) (.cells (byteV s.data.toList) 1 true true et)
    ⟨w.heap.size, 0, s.size, grownCap w s.size 0 et, 1, true⟩ rfl rfl (fun ρ' sb => by
      refine ⟨rfl, by decide, rfl, (fun q => by cases q), hl8, hcap, bytesRow s (grownCap w s.size 0 et), et, ((bytesRow s (grownCap w s.size 0 et)).size, (bytesRow s (grownCap w s.size 0 et)).size + 1), rfl, ?_, ?_, ?_, ?_, (fun z => by cases z)⟩
      · show (w.heap.push _)[w.heap.size]? = _; simp
      · simp only []; omega
      · intro k v hk
        refine ⟨v, ?_, (cl1_af (List.all_eq_true.mp (byteV_cl _) v (List.mem_of_getElem? hk))).rel ρ'⟩
        rw [← Array.getElem?_toList, hbr]
        simp only [Nat.zero_add]
        rw [List.getElem?_append_left (List.getElem?_eq_some_iff.mp hk).1]; exact hk
      · intro _ k k1 k2
        simp only [] at k2
        have : ¬ ((bytesRow s (grownCap w s.size 0 et)).size ≤ k) := by omega
        simp [this])
  have hex : (execOp a.eval o).run P w = .ok (.value (.slice (some ⟨w.heap.size, 0, none⟩) s.size (grownCap w s.size 0 et))) (w.drew.alloc (.cells (bytesRow s (grownCap w s.size 0 et)) et ((bytesRow s (grownCap w s.size 0 et)).size, (bytesRow s (grownCap w s.size 0 et)).size + 1))) := by
    simp [execOp, ho, e1, hr]
  unfold Oper.wp
  rw [hex]
  refine hnext _ _ _ (fun v hv => ?_) ((ext_drawn ρ w _).trans hall.2) hall.1
  cases hv
  have hV := VRel.slice (ρ := upd ρ nid ⟨w.heap.size, 0, s.size, grownCap w s.size 0 et, 1, true⟩) nid 0 s.size s.size _ (grownCap w s.size 0 et) (upd_same _ _ _) (Nat.le_refl _) (by simp) (fun _ => ⟨hcap, by simp⟩) (fun hne => absurd (by simp) hne)
  simpa using hV
/-! ### the runes of a text -/
theorem does_range {T : Tys} (hT : TysOk P T) {t : TypeId} {ti : TyI} (ht : T.get t = some ti) (hsh : ti.sh = .string) {x : Operand} {s : ByteArray} (nid : Nat) (ho : o.op = .range t x) (hx : evO e x = some (.string s)) :
    OpSem P W0 o e [] [] [(nid, .iter s 0)] (some (.pointer (some ⟨nid, 0, none⟩))) := by
  intro ρ h w a hR hO hrd hal next Q hnext
  have hs := (hT t ti ht).2
  rw [hsh] at hs
  have e1 := (AF.string s).eq (hO x (by simp [ho, Op.operands]) _ hx)
  obtain ⟨hR', hE⟩ := rel_alloc hR (hal _ (List.mem_singleton.mpr rfl)) (.stringIter s 0) (.iter s 0) ⟨w.heap.size, 0, 0, 0, 1, true⟩ rfl rfl (fun ρ' _ => ⟨rfl, rfl, by show (w.heap.push _)[w.heap.size]? = _; simp⟩)
  have hex : (execOp a.eval o).run P w = .ok (.value (.pointer (some ⟨w.heap.size, 0, none⟩))) (w.alloc (.stringIter s 0)) := by
    simp [execOp, ho, e1, run_range_string w t s hs, World.iter]
  unfold Oper.wp
  rw [hex]
  exact hnext _ _ _ (fun v hv => by cases hv; exact .ptr nid 0 _ (upd_same _ _ _)) hE hR'
theorem iter_run {w : World} {b : Nat} {s : ByteArray} {pos : Nat} (hb : w.heap[b]? = some (.stringIter s pos)) (ty : TypeId) :
    (Instr.next (.pointer (some ⟨b, 0, none⟩)) true ty).run P w = if pos < s.size then .ok (.tuple #[.bool true, .int .i64 pos, .int .i32 (Utf8.decode s pos).1]) (setObjW w b (.stringIter s (pos + (Utf8.decode s pos).2))) else .ok (.tuple #[.bool false]) w := by
  simp only [Instr.next, getObj, setObj, Sem.run_bind, Sem.run, hb, Result.andThen]
  split
  · simp only [Sem.run, Sem.bind, Result.andThen, hb, goInt, Sem.run_bind, Sem.run_pure]; rfl
  · rfl
theorem does_next {x : Operand} {i : Nat} {s : ByteArray} {pos : Nat} (ho : o.op = .next x true) (hx : evO e x = some (.pointer (some ⟨i, 0, none⟩))) (hp : pos < s.size) :
    OpSem P W0 o e [(i, .iter s pos)] [(i, .iter s (pos + (Utf8.decode s pos).2))] [] (some (.tuple #[.bool true, .int .i64 pos, .int .i32 (Utf8.decode s pos).1])) := by
  intro ρ h w a hR hO hrd hal next Q hnext
  have hb := hrd _ (List.mem_singleton.mpr rfl)
  have hx' := hO x (by simp [ho, Op.operands]) _ hx
  obtain ⟨l, hl, e1⟩ := ptr_inv hx'
  obtain ⟨g1, g0, g2⟩ := rd_blk hR hl hb
  rw [g0] at e1
  obtain ⟨hR', hE⟩ := rel_set hR hl hb rfl (b := .iter s (pos + (Utf8.decode s pos).2)) rfl g1 (.stringIter s (pos + (Utf8.decode s pos).2)) ⟨g1, g0, setObjW_at g2 _⟩
  have hex : (execOp a.eval o).run P w = .ok (.value (.tuple #[.bool true, .int .i64 pos, .int .i32 (Utf8.decode s pos).1])) (setObjW w l.blk (.stringIter s (pos + (Utf8.decode s pos).2))) := by
    simp only [execOp, ho, e1, Sem.run_bind, iter_run g2, if_pos hp, Result.andThen_ok, Sem.run_pure]
  unfold Oper.wp
  rw [hex]
  refine hnext _ ρ _ (fun v hv => ?_) hE hR'
  cases hv
  exact (AF.tuple (by
    intro v hv
    simp only [List.mem_toArray, List.mem_cons, List.not_mem_nil, or_false] at hv
    rcases hv with rfl | rfl | rfl
    · exact .bool _
    · exact .int _ _
    · exact .int _ _)).rel ρ
theorem does_nextEnd {x : Operand} {i : Nat} {s : ByteArray} {pos : Nat} (ho : o.op = .next x true) (hx : evO e x = some (.pointer (some ⟨i, 0, none⟩))) (hp : ¬ pos < s.size) :
    OpSem P W0 o e [(i, .iter s pos)] [] [] (some (.tuple #[.bool false])) := .of_run fun ρ h w a hR hO hrd => by
  have hb := hrd _ (List.mem_singleton.mpr rfl)
  obtain ⟨l, hl, e1⟩ := ptr_inv (hO x (by simp [ho, Op.operands]) _ hx)
  obtain ⟨g1, g0, g2⟩ := rd_blk hR hl hb
  rw [g0] at e1
  refine ⟨_, (AF.tuple (by intro v hv; simp only [List.mem_toArray, List.mem_cons, List.not_mem_nil, or_false] at hv; subst hv; exact .bool _)).rel ρ, ?_⟩
  simp only [execOp, ho, e1, Sem.run_bind, iter_run g2, if_neg hp, Result.andThen_ok, Sem.run_pure]
end
end Go.Den
namespace Go.Den
open Go Go.RowKit
/-! ### lists in blocks that no one writes -/
section
variable {P : Program} {W0 : World} {o : Oper} {e : Env}
theorem does_indexL {T : Tys} (hT : TysOk P T) {t : TypeId} {ti : TyI} (ht : T.get t = some ti) {esz eb : Nat} {ea : Bool} {ez : List Value} {et : TypeId} (hsh : ti.sh = .slice esz eb ea ez et) {x y : Operand}
    {cs : List Value} {n : Nat} {k : IntKind} {j : Int} (ho : o.op = .indexAddr t x y) (hx : evO e x = some (LV cs n)) (hy : evO e y = some (.int k j)) (h0 : 0 ≤ j) (h1 : j < n) :
    OpSem P W0 o e [] [] [] (some (LP cs (j.toNat * esz))) := .of_run fun ρ h w a hR hO hrd => by
  have hs := (hT t ti ht).2
  rw [hsh] at hs
  obtain ⟨u1, hI⟩ := hs
  have e2 := (AF.int k j).eq (hO y (by simp [ho, Op.operands]) _ hy)
  have hj : 0 ≤ j ∧ j < (n : Int) := ⟨h0, h1⟩
  rcases lst_inv (hO x (by simp [ho, Op.operands]) _ hx) with ⟨p, c', hn, _⟩ | ⟨arr, b, off, c', q1, q2, q3, e1, q4⟩
  · omega
  · refine ⟨_, .lptrL q1 q2 q4, ?_⟩
    simp [execOp, ho, e1, e2, Instr.indexAt, asIntOf, run_underlying u1, hj, hI.size_run, add_plain]
theorem does_fieldAddrL {T : Tys} (hT : TysOk P T) {t : TypeId} {ti : TyI} (ht : T.get t = some ti) {fs : List (Nat × Nat × Bool)} (hsh : ti.sh = .struct fs) {k : Nat} {x : Nat × Nat × Bool} (hk : fs[k]? = some x)
    (hsz : x.2.1 ≠ 0) {y : Operand} {cs : List Value} {i : Nat} (ho : o.op = .fieldAddr t y k) (hy : evO e y = some (LP cs i)) :
    OpSem P W0 o e [] [] [] (some (LP cs (i + x.1))) := .of_run fun ρ h w a hR hO hrd => by
  obtain ⟨fields, f, info, d, u1, g1, g2, g3, g4, _⟩ := field_sh hT ht hsh hk
  obtain ⟨arr, b, a0, q1, q2, e1, q4⟩ := lptr_inv (hO y (by simp [ho, Op.operands]) _ hy)
  refine ⟨_, .lptrL (i := i + x.1) q1 q2 q4, ?_⟩
  have hz : ¬ info.size = 0 := by rw [g4]; exact hsz
  simp only [execOp, ho, e1, Instr.fieldAt, Sem.run_bind, run_underlying u1, Result.andThen_ok, g1, Instr.sureAddr, Sem.run_pure, fieldPlace, sizeOf, run_typeInfo g3, if_neg hz, Sem.run_ite, g2, add_plain]
  simp [Nat.add_assoc, hz, sizeOf, run_typeInfo g3]
theorem does_loadL {T : Tys} (hT : TysOk P T) {t : TypeId} {ti : TyI} (ht : T.get t = some ti) {x : Operand} {cs : List Value} {i : Nat} (ho : o.op = .load t x) (hx : evO e x = some (LP cs i)) {v : Value}
    (hv : if ti.agg then i + ti.size ≤ cs.length ∧ v = .agg ((cs.drop i).take ti.size).toArray else cs[i]? = some v) :
    OpSem P W0 o e [] [] [] (some v) := .of_run fun ρ h w a hR hO hrd => by
  obtain ⟨arr, b, a0, q1, q2, e1, q4⟩ := lptr_inv (hO x (by simp [ho, Op.operands]) _ hx)
  have hI := (hT t ti ht).1
  cases ha : ti.agg with
  | true =>
    rw [ha] at hv
    obtain ⟨hn, rfl⟩ := hv
    obtain ⟨ds, d1, d2, d3⟩ := cells_partL hR q1 q2 q4 i ti.size hn
    refine ⟨.agg ds.toArray, toArray_rel (by simp only [List.length_take, List.length_drop]; omega) d3, ?_⟩
    have hr := run_loadCells_list (P := P) w ⟨b, a0 + i, none⟩ ds (fun j v hj => by rw [add_plain]; exact d2 j v hj)
    rw [d1] at hr
    simp [execOp, ho, e1, Instr.loadAt, Instr.sureAddr, loadVar, hI.agg_run, ha, hI.size_run, hr]
  | false =>
    rw [ha] at hv
    simp only [Bool.false_eq_true, if_false] at hv
    have hlt := (List.getElem?_eq_some_iff.mp hv).1
    obtain ⟨t', fr, hb⟩ := hR.imm b arr q1
    have hlt2 : a0 + i < arr.size := by omega
    refine ⟨arr[a0 + i], q4 i v _ hv (by simp [hlt2]), ?_⟩
    have hc : w.cell? ⟨b, a0 + i, none⟩ = some arr[a0 + i] := by rw [cell_of hb]; simp [hlt2]
    simp [execOp, ho, e1, Instr.loadAt, Instr.sureAddr, loadVar, hI.agg_run, ha, run_load, hc]
theorem does_sliceL {T : Tys} (hT : TysOk P T) {t : TypeId} {ti : TyI} (ht : T.get t = some ti) {esz eb : Nat} {ea : Bool} {ez : List Value} {et : TypeId} (hsh : ti.sh = .slice esz eb ea ez et) {x : Operand} {lo hi : Option Operand} {n L H : Nat}
    {cs : List Value} (ho : o.op = .slice t x lo hi none) (hx : evO e x = some (LV cs n)) (hL : Bnd e lo 0 L) (hH : Bnd e hi n H) (h1 : L ≤ H) (h2 : H ≤ n) (h3 : H * esz ≤ cs.length) :
    OpSem P W0 o e [] [] [] (some (LV ((cs.drop (L * esz)).take ((H - L) * esz)) (H - L))) := .of_run fun ρ h w a hR hO hrd => by
  have hs := (hT t ti ht).2
  rw [hsh] at hs
  obtain ⟨u1, hI⟩ := hs
  obtain ⟨m1, m2, m3, m4⟩ := mem_slice ho
  have b1 := hL.val (ρ := ρ) (a := a) fun y hy v hv => hO y (m2 y hy) v hv
  have b2 := hH.val (ρ := ρ) (a := a) fun y hy v hv => hO y (m3 y hy) v hv
  have hmul : L * esz + (H - L) * esz = H * esz := by rw [← Nat.add_mul, Nat.add_sub_cancel' h1]
  rcases lst_inv (hO x m1 _ hx) with ⟨p, c', hn, e1⟩ | ⟨arr, b, off, c', q1, q2, q3, e1, q4⟩
  · obtain rfl : H = 0 := by omega
    obtain rfl : L = 0 := by omega
    have hrun := run_bounds (P := P) (b := true) (len := n) b1 b2 h1 (show 0 ≤ c' from Nat.zero_le _) w
    subst hn
    rcases p with _ | p
    · refine ⟨.slice none 0 c', .lst0 _ _ _, ?_⟩
      simp [execOp, ho, e1, Instr.sliceAt, Instr.slice, run_underlying u1, hrun, hI.size_run]
    · by_cases hc : c' = 0
      · subst hc
        refine ⟨.slice (some p) 0 0, .lst0 _ _ _, ?_⟩
        simp [execOp, ho, e1, Instr.sliceAt, Instr.slice, run_underlying u1, hrun, hI.size_run]
      · refine ⟨.slice (some (p.add (0 * esz))) 0 c', .lst0 _ _ _, ?_⟩
        simp [execOp, ho, e1, Instr.sliceAt, Instr.slice, run_underlying u1, hrun, hI.size_run, hc]
  · have hrun := run_bounds (P := P) (b := true) (len := n) b1 b2 h1 (show H ≤ c' by omega) w
    by_cases hLc : c' = L
    · have hHL : H = L := by omega
      subst hHL; subst hLc
      refine ⟨.slice (some ⟨b, off, none⟩) 0 0, ?_, ?_⟩
      · rw [Nat.sub_self]; exact .lst0 _ _ _
      · simp [execOp, ho, e1, Instr.sliceAt, Instr.slice, run_underlying u1, hrun, hI.size_run]
    · refine ⟨.slice (some ⟨b, off + L * esz, none⟩) (H - L) (c' - L), ?_, ?_⟩
      · refine .lstL q1 (by simp only [List.length_take, List.length_drop]; omega) (by omega) fun k u u' p q => ?_
        rw [List.getElem?_take] at p
        split at p
        · rw [List.getElem?_drop] at p
          exact q4 _ u u' p (by rw [← Nat.add_assoc]; exact q)
        · cases p
      · simp [execOp, ho, e1, Instr.sliceAt, Instr.slice, run_underlying u1, hrun, hI.size_run, hLc, add_plain]
theorem does_lenLV {T : Tys} (hT : TysOk P T) {t : TypeId} {ti : TyI} (ht : T.get t = some ti) {esz eb : Nat} {ea : Bool} {ez : List Value} {et : TypeId} (hsh : ti.sh = .slice esz eb ea ez et) {x : Operand} {cs : List Value} {n : Nat}
    (ho : o.op = .call ⟨.builtin .len, #[x], #[t]⟩) (hx : evO e x = some (LV cs n)) : OpSem P W0 o e [] [] [] (some (.int .i64 n)) := by
  have hs := (hT t ti ht).2
  rw [hsh] at hs
  refine .of_run fun ρ h w a hR hO hrd => ⟨_, .int _ _, exec_len ho ?_⟩
  rcases lst_inv (hO x (mem_call ho (by simp)) _ hx) with ⟨p, c', hn, e1⟩ | ⟨arr, b, off, c', q1, q2, q3, e1, q4⟩
  · subst hn; rw [e1]; simp [Builtin.len_, run_underlying hs.1, goInt]
  · rw [e1]; simp [Builtin.len_, run_underlying hs.1, goInt]
theorem does_convLS {T : Tys} (hT : TysOk P T) {src dst et : TypeId} {si di ei : TyI} (hs : T.get src = some si) (hd : T.get dst = some di) (he : T.get et = some ei) {eb esz : Nat} {ea : Bool} {ez : List Value} (hss : si.sh = .slice esz eb ea ez et) (hds : di.sh = .string)
    (hes : ei.sh = .int .u8) {x : Operand} {l : List UInt8} (ho : o.op = .convert src dst x) (hx : evO e x = some (LV (byteV l) l.length)) : OpSem P W0 o e [] [] [] (some (.string ⟨l.toArray⟩)) := .of_run fun ρ h w a hR hO hrd => by
  have h1 := (hT src si hs).2; rw [hss] at h1
  have h2 := (hT dst di hd).2; rw [hds] at h2
  have h3 := (hT et ei he).2; rw [hes] at h3
  refine ⟨_, .string _, ?_⟩
  rcases lst_inv (hO x (by simp [ho, Op.operands]) _ hx) with ⟨p, c', hn, e1⟩ | ⟨arr, b, off, c', q1, q2, q3, e1, q4⟩
  · have hl : l = [] := List.eq_nil_of_length_eq_zero hn
    subst hl
    cases p with
    | none =>
      have hr := run_convert_bytes_nil (P := P) w src et h1.1 h3 0 c' dst h2
      simp [execOp, ho, e1, hr]; rfl
    | some a =>
      have hr := run_convert_bytes_back (P := P) w src dst et a c' [] h1.1 h3 h2 (fun j hj => by cases hj)
      simp only [List.length_nil] at hr
      simp [execOp, ho, e1, hr]
  · obtain ⟨t', fr, hb⟩ := hR.imm b arr q1
    have hr := run_convert_bytes_back (P := P) w src dst et ⟨b, off, none⟩ c' l h1.1 h3 h2 (fun j hj => by
      rw [add_plain, cell_of hb]
      have hlt : off + j < arr.size := by rw [byteV_length] at q2; omega
      have p1 : (byteV l)[j]? = some (Value.int .u8 (l[j].toNat : Int)) := by unfold byteV; simp [hj]
      have := q4 j _ arr[off + j] p1 (by simp [hlt])
      rw [Array.getElem?_eq_getElem hlt, (AF.int _ _).eq this])
    simp [execOp, ho, e1, hr]
theorem does_nilCheckL {x : Operand} {cs : List Value} {i : Nat} (ho : o.op = .nilCheck x) (hx : evO e x = some (LP cs i)) : OpSem P W0 o e [] [] [] (some (LP cs i)) := .of_run fun ρ h w a hR hO hrd => by
  have h1 := hO x (by simp [ho, Op.operands]) _ hx
  obtain ⟨arr, b, a0, q1, q2, e1, q4⟩ := lptr_inv h1
  refine ⟨_, h1, ?_⟩
  simp [execOp, ho, e1]
end
end Go.Den
namespace Go.Den
open Go Go.RowKit
section
variable {P : Program} {W0 : World} {o : Oper} {e : Env}

/-! ### pointers as unsafe ones, and back; the bytes behind one as a text -/
theorem shape_of {w : World} {b : Nat} {c : Array Value} {t : TypeId} {fr : Nat × Nat} (h : w.heap[b]? = some (.cells c t fr)) : w.shape? b = some (t, c.size) := by
  simp [World.shape?, h]
theorem does_toUnsafe {T : Tys} (hT : TysOk P T) {src dst : TypeId} {si di : TyI} {esz : Nat} {et : TypeId} (hs : T.get src = some si) (hd : T.get dst = some di) (hss : si.sh = .ptr esz et) (hds : di.sh = .uptr) {x : Operand} {i off : Nat}
    {cs : List Value} {sz : Nat} {wr sp : Bool} {ty : TypeId} (ho : o.op = .convert src dst x) (hx : evO e x = some (.pointer (some ⟨i, off, none⟩))) (h0 : 0 < esz) (hn : off < cs.length) :
    OpSem P W0 o e [(i, .cells cs sz wr sp ty)] [] [] (some (.pointer (some ⟨i, off, none⟩))) := .of_run fun ρ h w a hR hO hrd => by
  have h1 := (hT src si hs).2
  have h2 := (hT dst di hd).2
  rw [hss] at h1
  rw [hds] at h2
  obtain ⟨info, u1, u2, u3⟩ := h1
  have hv := hO x (by simp [ho, Op.operands]) _ hx
  obtain ⟨l, hl, e1⟩ := ptr_inv hv
  obtain ⟨b1, b2, b3, b4, b5, b6, c, t, fr, hty, b7, b8, b9, b10⟩ := hR.blk i l _ hl (hrd _ (List.mem_singleton.mpr rfl))
  refine ⟨a.eval x, hv, ?_⟩
  have := Lib.run_to_unsafe (P := P) w (src := src) (dst := dst) (j := info) ⟨l.blk, l.off + off, none⟩ u1 h2 u2 (by omega) (shape_of b7) (by simp only []; omega)
  simp [execOp, ho, e1, this]
theorem lies_own {t : TypeId} {n : Nat} (h0 : 0 < P.cellsOf t) (h : P.cellsOf t ≤ n) : liesAt P P.depth t (n / P.cellsOf t) 0 t 1 = true := by
  have hd : P.depth = (2 * (P.types.size + Made.depth) + 1) + 1 := rfl
  have h2 : 1 ≤ n / P.cellsOf t := Nat.div_pos h h0
  rw [hd]
  simp only [liesAt, Bool.or_eq_true]
  left
  rw [hd]
  have h3 : P.cellsOf t ≠ 0 := by omega
  simp [rowAt, sameLayout, h3, h2]
theorem does_fromUnsafe {T : Tys} (hT : TysOk P T) {src dst : TypeId} {si di : TyI} {esz : Nat} {et : TypeId} (hs : T.get src = some si) (hd : T.get dst = some di) (hss : si.sh = .uptr) (hds : di.sh = .ptr esz et) {x : Operand} {i : Nat}
    {cs : List Value} {sz : Nat} {wr : Bool} (ho : o.op = .convert src dst x) (hx : evO e x = some (.pointer (some ⟨i, 0, none⟩))) (h0 : 0 < esz) (hn : esz ≤ cs.length) :
    OpSem P W0 o e [(i, .cells cs sz wr false et)] [] [] (some (.pointer (some ⟨i, 0, none⟩))) := .of_run fun ρ h w a hR hO hrd => by
  have h1 := (hT src si hs).2
  have h2 := (hT dst di hd).2
  rw [hss] at h1
  rw [hds] at h2
  obtain ⟨info, u1, u2, u3⟩ := h2
  have hv := hO x (by simp [ho, Op.operands]) _ hx
  obtain ⟨l, hl, e1⟩ := ptr_inv hv
  obtain ⟨b1, b2, b3, b4, b5, b6, c, t, fr, hty, b7, b8, b9, b10⟩ := hR.blk i l _ hl (hrd _ (List.mem_singleton.mpr rfl))
  rw [hty] at b7
  obtain ⟨f1, f2⟩ := b10.2 rfl
  refine ⟨a.eval x, hv, ?_⟩
  have hc : P.cellsOf et = esz := by simp [Program.cellsOf, u2, u3]
  rw [f1] at e1
  have := Lib.run_from_unsafe (P := P) w (src := src) (dst := dst) (j := info) (e := et) ⟨l.blk, 0 + 0, none⟩ h1 u1 u2 (shape_of b7) (lies_own (by omega) (by omega))
  simp only [Nat.add_zero] at e1 this
  simp [execOp, ho, e1, this]
theorem exec_call1 {b : Builtin} {x : Operand} {ts : Array TypeId} (ho : o.op = .call ⟨.builtin b, #[x], ts⟩) {a : Act} {w w' : World} {v : Value} (f : Array TypeId → TypeId → Array Value → Sem Value)
    (hf : ∀ k args, builtin b ts o.type k args = (do pure (.value (← f ts o.type args)) : Sem Next)) (h : (f ts o.type #[a.eval x]).run P w = .ok v w') : (execOp a.eval o).run P w = .ok (.value v) w' := by
  obtain ⟨k, hk⟩ := exec_builtin ho a
  rw [hk, show (#[x] : Array Operand).map a.eval = #[a.eval x] by simp, hf]
  simp [h]
theorem exec_call2 {b : Builtin} {x y : Operand} {ts : Array TypeId} (ho : o.op = .call ⟨.builtin b, #[x, y], ts⟩) {a : Act} {w w' : World} {v : Value} (f : Array TypeId → TypeId → Array Value → Sem Value)
    (hf : ∀ k args, builtin b ts o.type k args = (do pure (.value (← f ts o.type args)) : Sem Next)) (h : (f ts o.type #[a.eval x, a.eval y]).run P w = .ok v w') : (execOp a.eval o).run P w = .ok (.value v) w' := by
  obtain ⟨k, hk⟩ := exec_builtin ho a
  rw [hk, show (#[x, y] : Array Operand).map a.eval = #[a.eval x, a.eval y] by simp, hf]
  simp [h]
theorem does_sliceDataN {x : Operand} {ts : Array TypeId} {n c : Nat} (ho : o.op = .call ⟨.builtin .unsafeSliceData, #[x], ts⟩) (hx : evO e x = some (.slice none n c)) :
    OpSem P W0 o e [] [] [] (some (.pointer none)) := .of_run fun ρ h w a hR hO hrd => ⟨_, .ptrN, exec_call1 ho Builtin.unsafeSliceData_ (fun _ _ => rfl) (by
  rw [(AF.sliceN n c).eq (hO x (mem_call ho (by simp)) _ hx)]; rfl)⟩
theorem does_sliceData {x : Operand} {ts : Array TypeId} {i off n c : Nat} (ho : o.op = .call ⟨.builtin .unsafeSliceData, #[x], ts⟩) (hx : evO e x = some (.slice (some ⟨i, off, none⟩) n c)) (hn : 0 < n) :
    OpSem P W0 o e [] [] [] (some (.pointer (some ⟨i, off, none⟩))) := .of_run fun ρ h w a hR hO hrd => by
  obtain ⟨l, c', hl, e1, h1, h2, h3, h4⟩ := slice_inv (hO x (mem_call ho (by simp)) _ hx) hn
  have hc : c' ≠ 0 := by
    by_cases q : off + c * l.sz = l.n
    · have := (h3 q).1; omega
    · have := h4 q; omega
  refine ⟨_, .ptr i off l hl, exec_call1 ho Builtin.unsafeSliceData_ (fun _ _ => rfl) ?_⟩
  rw [e1]
  exact Lib.run_unsafeSliceData_row w _ _ _ _ _ hc
theorem lies_bytes {t : TypeId} (hc : P.cellsOf t = 1) {count off n : Nat} (h : off + n ≤ count) : liesAt P P.depth t count off t n = true := by
  have hd : P.depth = (2 * (P.types.size + Made.depth) + 1) + 1 := rfl
  rw [hd]
  simp only [liesAt, Bool.or_eq_true]
  left
  rw [hd]
  simp [rowAt, sameLayout, hc, Nat.mod_one, h]
theorem run_uString {w : World} {pt it ty t : TypeId} {k : IntKind} (hp : P.underlying pt = some (.pointer t)) (hc : P.cellsOf t = 1) {g off cells : Nat} (hsh : w.shape? g = some (t, cells)) {l : List UInt8} (h0 : l ≠ []) (hn : off + l.length ≤ cells) (h63 : l.length ≤ 9223372036854775807)
    (hcell : ∀ j x, l[j]? = some x → w.cell? ((⟨g, off, none⟩ : Addr).add j) = some (.int .u8 x.toNat)) :
    (Builtin.unsafeString_ #[pt, it] ty #[.pointer (some ⟨g, off, none⟩), .int k l.length]).run P w = .ok (.string ⟨l.toArray⟩) (w.freeze ⟨g, off, none⟩ l.length) := by
  have hl : l.length ≠ 0 := by simpa using h0
  have hlb := Lib.run_loadBytes (P := P) w l ⟨g, off, none⟩ .empty hcell
  have hlies := lies_bytes (P := P) hc (count := cells / P.cellsOf t) (off := off) (n := l.length) (by rw [hc, Nat.div_one]; exact hn)
  have h63' : ¬ (9223372036854775807 : Int) < (l.length : Int) := by omega
  have hneg : ¬ (l.length : Int) < 0 := by omega
  have hmax : IntKind.i64.max = 9223372036854775807 := rfl
  refine Eq.trans (congrArg (fun z => Sem.run P z w) (show Builtin.unsafeString_ #[pt, it] ty #[.pointer (some ⟨g, off, none⟩), .int k l.length] = (asInt (.int k l.length) >>= _) from rfl)) ?_
  simp [asInt, asIntOf, hmax, h63', hneg, hl, variablesAt, hsh, elemOf, run_underlying hp, hlies, hlb]
theorem freeze_is {w : World} {g off n : Nat} {c : Array Value} {t : TypeId} {fr : Nat × Nat} (h : w.heap[g]? = some (.cells c t fr)) : ∃ fr', w.freeze ⟨g, off, none⟩ n = setObjW w g (.cells c t fr') := by
  have hlt : g < w.heap.size := (Array.getElem?_eq_some_iff.mp h).1
  have hv := (Array.getElem?_eq_some_iff.mp h).2
  unfold World.freeze
  split
  · exact ⟨fr, by
      have : w.heap.setIfInBounds g (.cells c t fr) = w.heap := by
        apply Array.ext (by simp)
        intro j h1 h2
        rw [Array.getElem_setIfInBounds]
        split
        · subst_vars; exact hv.symm
        · rfl
      unfold setObjW
      rw [this]⟩
  · obtain ⟨lo, hi⟩ := fr
    refine ⟨(if lo == hi then (off, off + n) else (min lo off, max hi (off + n))), ?_⟩
    unfold setObjW
    congr 1
    apply Array.ext (by simp)
    intro j h1 h2
    rw [Array.getElem_setIfInBounds, Array.getElem_modify]
    split
    · subst_vars; rw [hv]
    · rfl
theorem does_uString {T : Tys} (hT : TysOk P T) {pt it : TypeId} {ti : TyI} {et : TypeId} (ht : T.get pt = some ti) (hsh : ti.sh = .ptr 1 et) {x y : Operand} {i off : Nat} {k : IntKind} {n : Int} {cs : List Value} {sz : Nat} {sp : Bool} {l : List UInt8}
    (ho : o.op = .call ⟨.builtin .unsafeString, #[x, y], #[pt, it]⟩) (hx : evO e x = some (.pointer (some ⟨i, off, none⟩))) (hy : evO e y = some (.int k n)) (hn : n = (l.length : Int)) (h0 : l ≠ []) (h63 : l.length ≤ 9223372036854775807)
    (hle : off + l.length ≤ cs.length) (hl : (cs.drop off).take l.length = byteV l) :
    OpSem P W0 o e [(i, .cells cs sz true sp et)] [(i, .dead)] [] (some (.string ⟨l.toArray⟩)) := by
  intro ρ h w a hR hO hrd _ next Q hnext
  subst hn
  have hs := (hT pt ti ht).2
  rw [hsh] at hs
  obtain ⟨info, u1, u2, u3⟩ := hs
  obtain ⟨lc, hlc, e1⟩ := ptr_inv (hO x (mem_call ho (by simp)) _ hx)
  have e2 := (AF.int k (l.length : Int)).eq (hO y (mem_call ho (by simp)) _ hy)
  have hb := hrd _ (List.mem_singleton.mpr rfl)
  have hB := hR.blk i lc _ hlc hb
  obtain ⟨b1, b2, b3, b4, b5, b6, c, t, fr, hty, b7, b8, b9, b10⟩ := hB
  rw [hty] at b7
  have hc1 : P.cellsOf et = 1 := by simp [Program.cellsOf, u2, u3]
  have hrun := run_uString (P := P) (w := w) (pt := pt) (it := it) (ty := o.type) (t := et) (k := k) u1 hc1 (g := lc.blk) (off := lc.off + off) (shape_of b7) h0 (by omega) h63 (fun j z hz => by
    have hj : j < l.length := (List.getElem?_eq_some_iff.mp hz).1
    have h1 : cs[off + j]? = some (.int .u8 z.toNat) := by
      have h2 : ((cs.drop off).take l.length)[j]? = (byteV l)[j]? := by rw [hl]
      rw [List.getElem?_take, if_pos hj, List.getElem?_drop] at h2
      rw [h2]; unfold byteV; rw [List.getElem?_map, hz]; rfl
    obtain ⟨v', p1, p2⟩ := b9 _ _ h1
    cases p2
    have h3 : (⟨lc.blk, lc.off + off, none⟩ : Addr).add j = ⟨lc.blk, lc.off + (off + j), none⟩ := by
      unfold Addr.add
      by_cases q : j = 0
      · subst q; simp
      · simp [q]; omega
    rw [h3, cell_of b7]; exact p1)
  obtain ⟨fr', hfr⟩ := freeze_is (off := lc.off + off) (n := l.length) b7
  rw [hfr] at hrun
  have hex := exec_call2 ho Builtin.unsafeString_ (fun _ _ => rfl) (a := a) (w := w) (by rw [e1, e2]; exact hrun)
  unfold Oper.wp
  rw [hex]
  obtain ⟨h1, h2⟩ := rel_set0 hR hlc hb rfl (b := .dead) b3.symm (.cells c et fr') trivial
  exact hnext _ ρ _ (fun u hu => by cases hu; exact .string _) h2 h1
theorem does_uString0 {x y : Operand} {k : IntKind} {pt it : TypeId} (ho : o.op = .call ⟨.builtin .unsafeString, #[x, y], #[pt, it]⟩) (hx : evO e x = some (.pointer none)) (hy : evO e y = some (.int k 0)) :
    OpSem P W0 o e [] [] [] (some (.string ⟨#[]⟩)) := .of_run fun ρ h w a hR hO hrd => ⟨_, .string _, exec_call2 ho Builtin.unsafeString_ (fun _ _ => rfl) (by
  rw [AF.ptrN.eq (hO x (mem_call ho (by simp)) _ hx), (AF.int k 0).eq (hO y (mem_call ho (by simp)) _ hy)]
  have hmax : IntKind.i64.max = 9223372036854775807 := rfl
  refine Eq.trans (congrArg (fun z => Sem.run P z w) (show Builtin.unsafeString_ #[pt, it] o.type #[.pointer none, .int k 0] = (asInt (.int k 0) >>= _) from rfl)) ?_
  simp [asInt, asIntOf, hmax]
  rfl)⟩
/-- clear: a row's cells become zeros. -/
theorem does_clearN {x : Operand} {t : TypeId} {T : Tys} (hT : TysOk P T) {ti : TyI} (ht : T.get t = some ti) {esz eb : Nat} {ea : Bool} {ez : List Value} {et : TypeId} (hsh : ti.sh = .slice esz eb ea ez et) {p : Option Addr} {c : Nat}
    (ho : o.op = .call ⟨.builtin .clear, #[x], #[t]⟩) (hx : evO e x = some (.slice p 0 c)) : OpSem P W0 o e [] [] [] (some (.tuple #[])) := .of_run fun ρ h w a hR hO hrd => by
  have hs := (hT t ti ht).2
  rw [hsh] at hs
  refine ⟨_, AF.rel (.tuple (by simp)) ρ, exec_call1 ho Builtin.clear_ (fun _ _ => rfl) ?_⟩
  have hv := hO x (mem_call ho (by simp)) _ hx
  obtain ⟨v', hv'⟩ : ∃ v', a.eval x = v' := ⟨_, rfl⟩
  rw [hv'] at hv ⊢
  cases hv <;> simp [Builtin.clear_, run_underlying hs.1]
theorem cl1_one {v : Value} (h : cl1 v = true) : v.oneCell' = true := by
  cases v <;> first | rfl | cases h
theorem repL_ones {n : Nat} {z : List Value} (h : z.all cl1 = true) : (repL n z).all (·.oneCell') = true := by
  have := repL_cl (n := n) h
  rw [List.all_eq_true] at this ⊢
  exact fun v hv => cl1_one (this v hv)
theorem does_clear {x : Operand} {t : TypeId} {T : Tys} (hT : TysOk P T) {ti : TyI} (ht : T.get t = some ti) {esz eb : Nat} {ea : Bool} {ez : List Value} {et : TypeId} (hsh : ti.sh = .slice esz eb ea ez et) {i off n c : Nat} {cs : List Value} {sp : Bool} {ty : TypeId}
    (ho : o.op = .call ⟨.builtin .clear, #[x], #[t]⟩) (hx : evO e x = some (.slice (some ⟨i, off, none⟩) n c)) (hn : 0 < n) (hle : off + n * esz ≤ cs.length) :
    OpSem P W0 o e [(i, .cells cs esz true sp ty)] [(i, .cells (putL cs off (repL n ez)) esz true sp ty)] [] (some (.tuple #[])) := by
  intro ρ h w a hR hO hrd _ next Q hnext
  have hs := (hT t ti ht).2
  rw [hsh] at hs
  obtain ⟨u1, hI⟩ := hs
  obtain ⟨l, c', hl, e1, _⟩ := slice_inv (hO x (mem_call ho (by simp)) _ hx) hn
  have hb : h[i]? = some (.cells cs esz true sp ty) := hrd _ (List.mem_singleton.mpr rfl)
  obtain ⟨zv, z1, z2, _⟩ := hI.zero_run w
  have hzl := hI.zero_len
  have hzc : zv.cells = ez.toArray := by rw [← z2]
  obtain ⟨w', hrun, hE, hR'⟩ := store_blk (P := P) hR (us := repL n ez) (ds := repL n ez) (o := off) hl hb (by rw [repL_length, hzl]; exact hle) (repL_ones hI.zero_cl) rfl (LRel.refl (repL_cl hI.zero_cl)).2
  have hz : (Builtin.zeroCells zv.cells n).toList = repL n ez := by
    rw [hzc]; have := range_rep n ez; simpa [Builtin.zeroCells] using this
  have hn' : n ≠ 0 := by omega
  have hcl : (Builtin.clear_ #[t] o.type #[.slice (some ⟨l.blk, l.off + off, none⟩) n c']).run P w = .ok (.tuple #[]) w' := by
    obtain ⟨m, rfl⟩ : ∃ m, n = m + 1 := ⟨n - 1, by omega⟩
    simp [Builtin.clear_, run_underlying u1, z1, hz, hrun]
  have hex := exec_call1 ho Builtin.clear_ (fun _ _ => rfl) (a := a) (w := w) (by rw [e1]; exact hcl)
  unfold Oper.wp
  rw [hex]
  exact hnext _ ρ w' (fun u hu => by cases hu; exact AF.rel (.tuple (by simp)) ρ) hE hR'
end
end Go.Den
namespace Go.Den
open Go Go.RowKit
/-! ### maps whose keys are texts or numbers -/
def keyOk (ks : Bool) (v : Value) : Bool := match ks, v with
  | true, .string _ => true
  | false, .int _ _ => true
  | _, _ => false
def kdD (ks : Bool) : TypeDesc := match ks with
  | true => .string
  | false => .int .i64
/-- What a look answers. -/
def lookV (ez : Value) (r : Option (Nat × Value)) (ok : Bool) : Value := match r, ok with
  | some (_, u), true => .tuple #[u, .bool true]
  | some (_, u), false => u
  | none, true => .tuple #[ez, .bool false]
  | none, false => ez
/-- What a write leaves. -/
def updM (es : List MapEntry) (ck : Nat) (r : Option (Nat × Value)) (v u : Value) : ABlk := match r with
  | some (j, _) => .map (es.modify j fun e => { e with key := v, val := u }) ck
  | none => .map (es ++ [⟨v, u, ck⟩]) (ck + 1)
/-- The entry of a key. -/
def mfind (ks : Bool) (v : Value) (es : List MapEntry) : Option (Option (Nat × Value)) := Instr.findNow (kdD ks) v es 0
section
variable {P : Program} {W0 : World} {o : Oper} {e : Env}
theorem sameNow_kd {d : TypeDesc} {ks : Bool} (hd : if ks then d = .string else ∃ i, d = .int i) (a b : Value) : Instr.sameNow d a b = Instr.sameNow (kdD ks) a b := by
  cases ks with
  | true => simp only [if_true] at hd; subst hd; rfl
  | false =>
    simp only [Bool.false_eq_true, if_false] at hd
    obtain ⟨i, rfl⟩ := hd
    cases a <;> cases b <;> rfl
theorem findNow_rel {d : TypeDesc} {ks : Bool} (hd : if ks then d = .string else ∃ i, d = .int i) (v : Value) {R : Value → Value → Prop} : ∀ (es es' : List MapEntry) (n : Nat) (r : Option (Nat × Value)), es'.length = es.length →
    (∀ (k : Nat) (e : MapEntry), es[k]? = some e → ∃ e' : MapEntry, es'[k]? = some e' ∧ e'.key = e.key ∧ R e.val e'.val) →
    Instr.findNow (kdD ks) v es n = some r → ∃ r', Instr.findNow d v es' n = some r' ∧ (match r, r' with
      | none, none => True
      | some (j, x), some (j', x') => j' = j ∧ n ≤ j ∧ R x x' ∧ ∃ e e' : MapEntry, es[j - n]? = some e ∧ es'[j - n]? = some e' ∧ e'.key = e.key ∧ Instr.sameNow (kdD ks) v e.key = some true
      | _, _ => False)
  | [], [], n, r, _, _, h => by
    unfold Instr.findNow at h; cases h
    exact ⟨none, rfl, trivial⟩
  | e :: es, e' :: es', n, r, hl, hr, h => by
    obtain ⟨f, hf, hk, hv⟩ := hr 0 e rfl
    rw [List.getElem?_cons_zero] at hf; cases hf
    unfold Instr.findNow at h ⊢
    rw [hk, sameNow_kd hd]
    split at h
    · rename_i hs
      cases h
      refine ⟨_, rfl, rfl, Nat.le_refl _, hv, e, e', ?_, ?_, hk, hs⟩
      · rw [Nat.sub_self]; rfl
      · rw [Nat.sub_self]; rfl
    · obtain ⟨r', h1, h2⟩ := findNow_rel hd v es es' (n + 1) r (by simpa using hl) (fun k g hg => hr (k + 1) g (by simpa using hg)) h
      refine ⟨r', h1, ?_⟩
      revert h2
      split
      · exact fun _ => trivial
      · rename_i j x j' x'
        rintro ⟨a1, a2, a3, g, g', b1, b2, b3, b4⟩
        refine ⟨a1, by omega, a3, g, g', ?_, ?_, b3, b4⟩
        · rw [show j - n = (j - (n + 1)) + 1 by omega, List.getElem?_cons_succ]; exact b1
        · rw [show j - n = (j - (n + 1)) + 1 by omega, List.getElem?_cons_succ]; exact b2
      · exact fun z => z
    · cases h
theorem key_af {ks : Bool} {v : Value} (h : keyOk ks v = true) : AF v := by
  cases ks <;> cases v <;> first | (simp [keyOk] at h; done) | exact .string _ | exact .int _ _
theorem key_check {k : TypeId} {d : TypeDesc} {ks : Bool} (hu : P.underlying k = some d) (hd : if ks then d = .string else ∃ i, d = .int i) (b : Bool) (v : Value) (w : World) : (Instr.checkKey b 10000 k v).run P w = .ok () w := by
  unfold Instr.checkKey
  simp only [Sem.run_bind, run_underlying hu, Result.andThen_ok]
  cases ks with
  | true => simp only [if_true] at hd; subst hd; cases v <;> rfl
  | false =>
    simp only [Bool.false_eq_true, if_false] at hd
    obtain ⟨i, rfl⟩ := hd
    cases v <;> rfl
theorem find_run {k : TypeId} {d : TypeDesc} (hu : P.underlying k = some d) {v : Value} {es : List MapEntry} {r : Option (Nat × Value)} (h : Instr.findNow d v es 0 = some r) (w : World) : (Instr.findKey k v es).run P w = .ok r w := by
  unfold Instr.findKey
  simp only [Sem.run_bind, run_underlying hu, Result.andThen_ok, h, Sem.run_pure]
theorem key_stays {ks : Bool} {v u : Value} (h : keyOk ks v = true) (hs : Instr.sameNow (kdD ks) v u = some true) (w : World) : (Instr.keyThatStays u v).run P w = .ok v w := by
  have hb : Instr.sameBits 10000 u v = true := by
    cases ks <;> cases v <;> first | (simp [keyOk] at h; done) | skip
    · cases u <;> try (simp [Instr.sameNow, kdD] at hs; done)
      rename_i k a k' b
      simp only [Instr.sameNow, kdD] at hs
      split at hs
      · rename_i hk; subst hk
        have hab : a = b := by simpa using hs
        subst hab
        simp [Instr.sameBits]
      · cases hs
    · cases u <;> try (simp [Instr.sameNow, kdD] at hs; done)
      rename_i a b
      have hab : a = b := by
        simp only [Instr.sameNow, kdD, Option.some.injEq] at hs
        first
          | exact of_decide_eq_true hs
          | (have hd : (a.data == b.data) = true := hs; exact ByteArray.ext (eq_of_beq hd))
      subst hab
      simp only [Instr.sameNow, kdD, Option.some.injEq] at hs
      exact hs
  unfold Instr.keyThatStays
  rw [if_pos hb]; rfl
theorem map_inv {ρ : Ren} {i : Nat} {v' : Value} (h : VRel ρ (.map (some i)) v') : ∃ l, ρ i = some l ∧ v' = .map (some l.blk) := by
  cases h with | map _ l hl => exact ⟨l, hl, rfl⟩
theorem does_makeMap {t : TypeId} (nid : Nat) (ho : o.op = .makeMap t none) :
    OpSem P W0 o e [] [] [(nid, .map [] 0)] (some (.map (some nid))) := by
  intro ρ h w a hR hO hrd hal next Q hnext
  obtain ⟨hR', hE⟩ := rel_alloc hR (hal _ (List.mem_singleton.mpr rfl)) (.map #[] 0) (.map [] 0) ⟨w.heap.size, 0, 0, 0, 1, true⟩ rfl rfl (fun ρ' _ => ⟨rfl, #[], by show (w.heap.push _)[w.heap.size]? = _; simp, rfl, fun k e he => by cases he⟩)
  have hex : (execOp a.eval o).run P w = .ok (.value (.map (some w.heap.size))) (w.alloc (.map #[] 0)) := by
    simp [execOp, ho, Instr.makeMap, newObj]; rfl
  unfold Oper.wp
  rw [hex]
  exact hnext _ _ _ (fun v hv => by cases hv; exact .map nid _ (upd_same _ _ _)) hE hR'
theorem does_lookup {T : Tys} (hT : TysOk P T) {t : TypeId} {ti : TyI} (ht : T.get t = some ti) {ks : Bool} {ez : Value} (hsh : ti.sh = .map ks ez) {x y : Operand} {ok : Bool} {i : Nat} {v : Value} {es : List MapEntry} {ck : Nat} {r : Option (Nat × Value)}
    (ho : o.op = .lookup t x y ok) (hx : evO e x = some (.map (some i))) (hy : evO e y = some v) (hk : keyOk ks v = true) (hf : mfind ks v es = some r) :
    OpSem P W0 o e [(i, .map es ck)] [] [] (some (lookV ez r ok)) := .of_run fun ρ h w a hR hO hrd => by
  have hb := hrd _ (List.mem_singleton.mpr rfl)
  obtain ⟨l, hl, e1⟩ := map_inv (hO x (by simp [ho, Op.operands]) _ hx)
  have e2 := (key_af hk).eq (hO y (by simp [ho, Op.operands]) _ hy)
  obtain ⟨g0, es', g1, g2, g3⟩ := rd_blk hR hl hb
  have hs := (hT t ti ht).2
  rw [hsh] at hs
  obtain ⟨kt, et, d, info, hu, hku, hd, hi, hz, hcl⟩ := hs
  obtain ⟨r', f1, f2⟩ := findNow_rel (R := VRel ρ) hd v es es'.toList 0 r (by simpa using g2) (fun k e he => by
    obtain ⟨e', a1, a2, a3, a4, a5⟩ := g3 k e he
    exact ⟨e', by simpa using a1, a2, a5⟩) hf
  have hz' : ∀ w, (zeroValue et).run P w = .ok ez w := fun w => by simp [zeroValue, run_typeInfo hi, hz]
  have hgo : ∀ w, w.heap[l.blk]? = some (.map es' ck) → (getObj l.blk).run P w = .ok (.map es' ck) w := fun w hw => by simp [getObj, Sem.run, hw]
  have hbase : ∀ z, (Instr.lookup t (.map (some l.blk)) v ok).run P w = .ok z w ↔ lookV ez r' ok = z := by
    intro z
    unfold Instr.lookup
    simp only [Sem.run_bind, run_underlying hu, Result.andThen_ok, hgo w g1, Sem.run_pure, key_check hku hd, find_run hku f1]
    cases r' with
    | none => cases ok <;> simp [hz', lookV]
    | some q => obtain ⟨j, u⟩ := q; cases ok <;> simp [lookV]
  refine ⟨lookV ez r' ok, ?_, ?_⟩
  rotate_left
  · simp only [execOp, ho, e1, e2, Sem.run_bind]
    rw [(hbase _).mpr rfl]
    rfl
  · cases r with
    | none =>
      cases r' with
      | none => cases ok
                · exact (cl_af hcl).rel ρ
                · exact .tuple _ _ (by simp) (by
                    intro k u u' hu hu'
                    match k with
                    | 0 => simp at hu hu'; subst hu; subst hu'; exact (cl_af hcl).rel ρ
                    | 1 => simp at hu hu'; subst hu; subst hu'; exact .bool _
                    | k + 2 => simp at hu)
      | some q => exact f2.elim
    | some p =>
      cases r' with
      | none => exact f2.elim
      | some q =>
        obtain ⟨j, u⟩ := p; obtain ⟨j', u'⟩ := q
        obtain ⟨_, _, hv, _⟩ := f2
        cases ok
        · exact hv
        · exact .tuple _ _ (by simp) (by
            intro k x x' hx hx'
            match k with
            | 0 => simp at hx hx'; subst hx; subst hx'; exact hv
            | 1 => simp at hx hx'; subst hx; subst hx'; exact .bool _
            | k + 2 => simp at hx)
theorem does_mapUpdate {T : Tys} (hT : TysOk P T) {t : TypeId} {ti : TyI} (ht : T.get t = some ti) {ks : Bool} {ez : Value} (hsh : ti.sh = .map ks ez) {x y z : Operand} {i : Nat} {v u : Value} {es : List MapEntry} {ck : Nat} {r : Option (Nat × Value)}
    (ho : o.op = .mapUpdate t x y z ∨ o.op = .insert t x y z) (hx : evO e x = some (.map (some i))) (hy : evO e y = some v) (hz : evO e z = some u) (hk : keyOk ks v = true) (hf : mfind ks v es = some r) :
    OpSem P W0 o e [(i, .map es ck)] [(i, updM es ck r v u)] [] none := by
  intro ρ h w a hR hO hrd hal next Q hnext
  have hb := hrd _ (List.mem_singleton.mpr rfl)
  obtain ⟨l, hl, e1⟩ := map_inv (hO x (by rcases ho with ho | ho <;> simp [ho, Op.operands]) _ hx)
  have e2 := (key_af hk).eq (hO y (by rcases ho with ho | ho <;> simp [ho, Op.operands]) _ hy)
  have e3 := hO z (by rcases ho with ho | ho <;> simp [ho, Op.operands]) _ hz
  obtain ⟨g0, es', g1, g2, g3⟩ := rd_blk hR hl hb
  have hs := (hT t ti ht).2
  rw [hsh] at hs
  obtain ⟨kt, et, d, info, hu, hku, hd, hi, hzz, hcl⟩ := hs
  obtain ⟨r', f1, f2⟩ := findNow_rel (R := VRel ρ) hd v es es'.toList 0 r (by simpa using g2) (fun k e he => by
    obtain ⟨e', a1, a2, a3, a4, a5⟩ := g3 k e he
    exact ⟨e', by simpa using a1, a2, a5⟩) hf
  have hgo : (getObj l.blk).run P w = .ok (.map es' ck) w := by simp [getObj, Sem.run, g1]
  have hso : ∀ ob, (setObj l.blk ob).run P w = .ok () (setObjW w l.blk ob) := fun ob => by simp [setObj, Sem.run, g1]; rfl
  have hdo : ∀ w', (Instr.mapUpdate t (.map (some l.blk)) v (a.eval z)).run P w = .ok () w' → (execOp a.eval o).run P w = .ok .skip w' := fun w' q => by
    rcases ho with ho | ho <;> simp only [execOp, ho, e1, e2, Sem.run_bind, q, Result.andThen_ok, Sem.run_pure]
  cases r with
  | none =>
    cases r' with
    | some q => exact f2.elim
    | none =>
      have hrun : (Instr.mapUpdate t (.map (some l.blk)) v (a.eval z)).run P w = .ok () (setObjW w l.blk (.map (es'.push { key := v, val := a.eval z, born := ck }) (ck + 1))) := by
        unfold Instr.mapUpdate
        simp only [Sem.run_bind, run_underlying hu, Result.andThen_ok, hgo, key_check hku hd, find_run hku f1, hso]
      obtain ⟨hR', hE⟩ := rel_set hR hl hb rfl (b := .map (es ++ [⟨v, u, ck⟩]) (ck + 1)) rfl g0 (.map (es'.push { key := v, val := a.eval z, born := ck }) (ck + 1)) ⟨g0, _, setObjW_at g1 _, by simp [g2], fun k f hf' => by
        by_cases hkl : k < es.length
        · rw [List.getElem?_append_left hkl] at hf'
          obtain ⟨e', a1, a2, a3, a4, a5⟩ := g3 k f hf'
          exact ⟨e', by rw [Array.getElem?_push_lt (by omega)]; rw [← a1]; simp [show k < es'.size by omega], a2, a3, a4, a5⟩
        · rw [List.getElem?_append_right (by omega)] at hf'
          have hk0 : k - es.length = 0 := by
            rcases Nat.eq_zero_or_pos (k - es.length) with q | q
            · exact q
            · rw [List.getElem?_eq_none (by simp; omega)] at hf'; cases hf'
          rw [hk0] at hf'; simp at hf'; subst hf'
          exact ⟨⟨v, a.eval z, ck⟩, by rw [show k = es'.size by omega]; simp, rfl, key_af hk, rfl, e3⟩⟩
      unfold Oper.wp
      rw [hdo _ hrun]
      exact hnext _ ρ _ (fun v hv => by cases hv) hE hR'
  | some p =>
    cases r' with
    | none => exact f2.elim
    | some q =>
      obtain ⟨j, xv⟩ := p; obtain ⟨j', xv'⟩ := q
      obtain ⟨hj, _, hv, f, f', b1, b2, b3, b4⟩ := f2
      replace hj := hj.symm
      subst hj
      rw [Nat.sub_zero] at b1 b2
      have b2' : es'[j]? = some f' := by simpa using b2
      have hks : (Instr.keyThatStays ((((es'[j]?).map (·.key)).getD v)) v).run P w = .ok v w := by
        rw [b2']; simp only [Option.map_some, Option.getD_some]
        exact key_stays hk (by rw [b3]; exact b4) w
      have hrun : (Instr.mapUpdate t (.map (some l.blk)) v (a.eval z)).run P w = .ok () (setObjW w l.blk (.map (es'.modify j fun e => { e with key := v, val := a.eval z }) ck)) := by
        unfold Instr.mapUpdate
        simp only [Sem.run_bind, run_underlying hu, Result.andThen_ok, hgo, key_check hku hd, find_run hku f1, hso, hks]
      obtain ⟨hR', hE⟩ := rel_set hR hl hb rfl (b := .map (es.modify j fun e => { e with key := v, val := u }) ck) rfl g0 (.map (es'.modify j fun e => { e with key := v, val := a.eval z }) ck) ⟨g0, _, setObjW_at g1 _, by simp [g2], fun k f hf' => by
        rw [List.getElem?_modify] at hf'
        cases hek : es[k]? with
        | none => rw [hek] at hf'; cases hf'
        | some g =>
          rw [hek] at hf'
          obtain ⟨e', a1, a2, a3, a4, a5⟩ := g3 k g hek
          by_cases hjk : j = k
          · subst hjk
            simp only [if_true] at hf'
            cases hf'
            exact ⟨{ e' with key := v, val := a.eval z }, by rw [Array.getElem?_modify, if_pos rfl, a1]; rfl, rfl, key_af hk, a4, e3⟩
          · simp only [if_neg hjk] at hf'
            cases hf'
            exact ⟨e', by rw [Array.getElem?_modify, if_neg hjk, a1], a2, a3, a4, a5⟩⟩
      unfold Oper.wp
      rw [hdo _ hrun]
      exact hnext _ ρ _ (fun v hv => by cases hv) hE hR'
end
end Go.Den
namespace Go.Den
open Go Go.RowKit

/-- A function without a body: what it answers. -/
abbrev ExtK := List Value → (Value → Prop) → Prop
structure Ctx where
  P : Program
  W0 : World
  T : Tys
  X : FuncId → Option ExtK
structure Ctx.Ok (C : Ctx) : Prop where
  ty : TysOk C.P C.T
  pl : TysPl C.P C.T
  mixed : C.P.follows .mixedOrders = true
  ext : ∀ (f : FuncId) (F : ExtK), C.X f = some F → ∀ (args : List Value) (K : Value → Prop), F args K → ∃ v, K v ∧ ∀ (ρ : Ren) (w : World) (args' : List Value), LRel ρ args args' → ∃ v', VRel ρ v v' ∧ (callFunc f args'.toArray).run C.P w = .ok (.value v') w

def brP (b : Bool) (y n : Prop) : Prop := match b with | true => y | false => n
theorem brP.intro {b : Bool} {y n : Prop} (h1 : b = true → y) (h2 : b = false → n) : brP b y n := by
  cases b
  · exact h2 rfl
  · exact h1 rfl

theorem brP.cases {b : Bool} {y n : Prop} (h : brP b y n) : (b = true ∧ y) ∨ (b = false ∧ n) := by
  cases b
  · exact .inr ⟨rfl, h⟩
  · exact .inl ⟨rfl, h⟩

def bndK (e : Env) (x : Option Operand) (d : Nat) (K : Int → Prop) : Prop :=
  match x with
  | none => K d
  | some x => match evO e x with
    | some (.int _ n) => K n
    | _ => False
theorem bndK_ex {e : Env} {x : Option Operand} {d : Nat} {K : Int → Prop} (h : bndK e x d K) : ∃ n : Int, K n ∧ (0 ≤ n → Bnd e x d n.toNat) ∧ (x = none → n = d) := by
  unfold bndK at h
  split at h
  · exact ⟨_, h, fun _ => by simp [Bnd], fun _ => rfl⟩
  · split at h
    · rename_i k n hx
      exact ⟨n, h, fun h0 => ⟨k, by rw [hx, Int.toNat_of_nonneg h0]⟩, fun q => by cases q⟩
    · exact h.elim
/-- The part of a block that a pointer or a slice leads to. -/
def cellsK (h : AHeap) (i : Nat) (K : List Value → Nat → Bool → Bool → TypeId → Prop) : Prop :=
  ∃ cs sz wr sp ty, h[i]? = some (.cells cs sz wr sp ty) ∧ K cs sz wr sp ty
/-- Within bounds. -/
def InB (j : Int) (n : Nat) : Prop := 0 ≤ j ∧ j < n
theorem InB.mk {j : Int} {n : Nat} (h : 0 ≤ j) (k : j < n) : InB j n := ⟨h, k⟩
theorem InB.lo {j : Int} {n : Nat} (h : InB j n) : 0 ≤ j := h.1
theorem InB.hi {j : Int} {n : Nat} (h : InB j n) : j < n := h.2
def SlB (l r : Int) (n : Nat) : Prop := 0 ≤ l ∧ l ≤ r ∧ r ≤ n
theorem SlB.mk {l r : Int} {n : Nat} (h : 0 ≤ l) (k : l ≤ r) (m : r ≤ n) : SlB l r n := ⟨h, k, m⟩
theorem SlB.lo {l r : Int} {n : Nat} (h : SlB l r n) : 0 ≤ l := h.1
theorem SlB.mid {l r : Int} {n : Nat} (h : SlB l r n) : l ≤ r := h.2.1
theorem SlB.hi {l r : Int} {n : Nat} (h : SlB l r n) : r ≤ n := h.2.2
/-- Room for a row of m elements. -/
def Room (m eb : Nat) : Prop := m * eb ≤ 140737488355328 ∧ m ≤ 9223372036854775807
theorem Room.mk {m eb : Nat} (h : m * eb ≤ 140737488355328) (k : m ≤ 9223372036854775807) : Room m eb := ⟨h, k⟩
theorem Room.a {m eb : Nat} (h : Room m eb) : m * eb ≤ 140737488355328 := h.1
theorem Room.b {m eb : Nat} (h : Room m eb) : m ≤ 9223372036854775807 := h.2
def Fits (a b : Nat) : Prop := a ≤ b
theorem Fits.mk {a b : Nat} (h : a ≤ b) : Fits a b := h
theorem Fits.le {a b : Nat} (h : Fits a b) : a ≤ b := h
/-- What make takes. -/
def MkB (n c : Int) (eb : Nat) : Prop := 0 ≤ n ∧ n ≤ c ∧ c * eb ≤ 281474976710656 ∧ c ≤ 9223372036854775807
theorem MkB.mk {n c : Int} {eb : Nat} (h1 : 0 ≤ n) (h2 : n ≤ c) (h3 : c * eb ≤ 281474976710656) (h4 : c ≤ 9223372036854775807) : MkB n c eb := ⟨h1, h2, h3, h4⟩
theorem MkB.ex {n c : Int} {eb : Nat} (h : MkB n c eb) : 0 ≤ n ∧ n ≤ c ∧ c * eb ≤ 281474976710656 ∧ c ≤ 9223372036854775807 := h
attribute [irreducible] InB SlB Room Fits MkB
def srcK (h : AHeap) (esz : Nat) (u : Value) (K : List (Nat × ABlk) → Nat → List Value → Prop) : Prop :=
  match u with
  | .slice none 0 0 => K [] 0 []
  | .slice (some ⟨i, off, none⟩) n c => (n = 0 ∧ K [] 0 []) ∨ (0 < n ∧ cellsK h i fun cs sz wr sp ty => sz = esz ∧ Fits (off + n * esz) cs.length ∧ K [(i, .cells cs sz wr sp ty)] n ((cs.drop off).take (n * esz)))
  | .func (.yield n) ⟨cs⟩ ⟨[]⟩ => cs.length = n * esz ∧ K [] n cs
  | .string s => esz = 1 ∧ K [] s.size (s.data.toList.map fun b => .int .u8 b.toNat)
  | _ => False
theorem srcK_ex {h : AHeap} {esz : Nat} {u : Value} {K : List (Nat × ABlk) → Nat → List Value → Prop} (q : srcK h esz u K) : ∃ rd n news, Src esz u rd n news ∧ (∀ p ∈ rd, h[p.1]? = some p.2) ∧ K rd n news := by
  unfold srcK at q
  split at q
  · exact ⟨_, _, _, .nil, (fun p hp => nomatch hp), q⟩
  · rcases q with ⟨rfl, q⟩ | ⟨h0, cs, sz, wr, sp, ty, hb, rfl, hl, q⟩
    · exact ⟨_, _, _, .empty _ _ _, (fun p hp => nomatch hp), q⟩
    · exact ⟨_, _, _, .slice _ _ _ _ cs wr sp ty h0 hl.le, (fun p hp => by rw [List.mem_singleton.mp hp]; exact hb), q⟩
  · obtain ⟨h1, q⟩ := q
    exact ⟨_, _, _, .lst _ _ h1, (fun p hp => nomatch hp), q⟩
  · obtain ⟨h1, q⟩ := q
    exact ⟨_, _, _, .string _ h1, (fun p hp => nomatch hp), q⟩
  · exact q.elim

def loadK (T : Tys) (t : TypeId) (p : Value) (h : AHeap) (K : Eff → Prop) : Prop :=
  match p with
  | .pointer (some ⟨i, off, none⟩) => tyK T t fun ti => cellsK h i fun cs sz wr sp ty =>
      match ti.agg with
      | true => Fits (off + ti.size) cs.length ∧ ∃ out, (cs.drop off).take ti.size = out ∧ K ⟨some (.agg out.toArray), [(i, .cells cs sz wr sp ty)], [], []⟩
      | false => ∃ v, cs[off]? = some v ∧ K ⟨some v, [(i, .cells cs sz wr sp ty)], [], []⟩
  | .func (.yield off) ⟨cs⟩ ⟨[.bool true]⟩ => tyK T t fun ti => match ti.agg with
      | true => Fits (off + ti.size) cs.length ∧ ∃ out, (cs.drop off).take ti.size = out ∧ K (pure1 (.agg out.toArray))
      | false => ∃ v, cs[off]? = some v ∧ K (pure1 v)
  | _ => False
def storeK (T : Tys) (t : TypeId) (p v : Value) (h : AHeap) (K : Eff → Prop) : Prop :=
  match p with
  | .pointer (some ⟨i, off, none⟩) => tyK T t fun ti => cellsK h i fun cs sz wr sp ty =>
      wr = true ∧ v.cells.toList.length = ti.size ∧ Fits (off + ti.size) cs.length ∧ v.cells.toList.all (·.oneCell') = true ∧
      K ⟨none, [(i, .cells cs sz true sp ty)], [(i, .cells (putL cs off v.cells.toList) sz true sp ty)], []⟩
  | _ => False
def newPtr (h : AHeap) : Value := .pointer (some ⟨h.length, 0, none⟩)
def idxK (T : Tys) (t : TypeId) (u v : Value) (K : Eff → Prop) : Prop :=
  match u, v with
  | .string s, .int _ j => tyK T t fun ti => match ti.sh with
    | .string => InB j s.size ∧ K (pure1 (.int .u8 (byteAt s j)))
    | _ => False
  | .agg cs, .int _ j => tyK T t fun ti => match ti.sh with
    | .arr n esz ea => InB j n ∧ match ea with
      | true => K (pure1 (.agg ((cs.toList.drop (j.toNat * esz)).take esz).toArray))
      | false => ∃ v, cs.toList[j.toNat * esz]? = some v ∧ K (pure1 v)
    | _ => False
  | _, _ => False
def idxAddrK (T : Tys) (t : TypeId) (u v : Value) (K : Eff → Prop) : Prop :=
  match u, v with
  | .slice (some ⟨i, off, none⟩) n _, .int _ j => tyK T t fun ti => match ti.sh with
    | .slice esz _ _ _ _ => InB j n ∧ K (pure1 (.pointer (some ⟨i, off + j.toNat * esz, none⟩)))
    | _ => False
  | .func (.yield n) ⟨cs⟩ ⟨[]⟩, .int _ j => tyK T t fun ti => match ti.sh with
    | .slice esz _ _ _ _ => InB j n ∧ K (pure1 (LP cs (j.toNat * esz)))
    | _ => False
  | .pointer (some ⟨i, off, none⟩), .int _ j => tyK T t fun ti => match ti.sh with
    | .arr n esz _ => InB j n ∧ K (pure1 (.pointer (some ⟨i, off + j.toNat * esz, none⟩)))
    | _ => False
  | _, _ => False
def fieldAddrK (T : Tys) (t : TypeId) (u : Value) (k : Nat) (K : Eff → Prop) : Prop :=
  match u with
  | .pointer (some ⟨i, off, none⟩) => tyK T t fun ti => match ti.sh with
    | .struct fs => match fs[k]? with
      | some x => Nat.beq x.2.1 0 = false ∧ K (pure1 (.pointer (some ⟨i, off + x.1, none⟩)))
      | none => False
    | _ => False
  | .func (.yield off) ⟨cs⟩ ⟨[.bool true]⟩ => tyK T t fun ti => match ti.sh with
    | .struct fs => match fs[k]? with
      | some x => Nat.beq x.2.1 0 = false ∧ K (pure1 (LP cs (off + x.1)))
      | none => False
    | _ => False
  | _ => False
def fieldK (T : Tys) (t : TypeId) (u : Value) (k : Nat) (K : Eff → Prop) : Prop :=
  match u with
  | .agg cs => tyK T t fun ti => match ti.sh with
    | .struct fs => match fs[k]? with
      | some x => match x.2.2 with
        | true => K (pure1 (.agg ((cs.toList.drop x.1).take x.2.1).toArray))
        | false => ∃ v, cs.toList[x.1]? = some v ∧ K (pure1 v)
      | none => False
    | _ => False
  | _ => False
def sliceK (T : Tys) (t : TypeId) (u : Value) (e : Env) (h : AHeap) (lo hi mx : Option Operand) (K : Eff → Prop) : Prop :=
  match u, mx with
  | .string s, none => tyK T t fun ti => match ti.sh with
    | .string => bndK e lo 0 fun l => bndK e hi s.size fun r => SlB l r s.size ∧ K (pure1 (.string (s.extract l.toNat r.toNat)))
    | _ => False
  | .func (.yield n) ⟨cs⟩ ⟨[]⟩, none => tyK T t fun ti => match ti.sh with
    | .slice esz _ _ _ _ => bndK e lo 0 fun l => bndK e hi n fun r => SlB l r n ∧ r.toNat * esz ≤ cs.length ∧ ∃ out, (cs.drop (l.toNat * esz)).take ((r.toNat - l.toNat) * esz) = out ∧ K (pure1 (LV out (r.toNat - l.toNat)))
    | _ => False
  | .slice none 0 0, none => tyK T t fun ti => match ti.sh with
    | .slice .. => bndK e lo 0 fun l => bndK e hi 0 fun r => SlB l r 0 ∧ K (pure1 (.slice none 0 0))
    | _ => False
  | .slice (some ⟨i, off, none⟩) n c, none => tyK T t fun ti => match ti.sh with
    | .slice esz _ _ _ _ => bndK e lo 0 fun l => bndK e hi n fun r => SlB l r c ∧ cellsK h i fun cs sz wr sp ty => sz = esz ∧
        K ⟨some (.slice (some ⟨i, off + l.toNat * esz, none⟩) (r.toNat - l.toNat) (c - l.toNat)), [(i, .cells cs sz wr sp ty)], [], []⟩
    | _ => False
  | .slice (some ⟨i, off, none⟩) n c, some mx => tyK T t fun ti => match ti.sh with
    | .slice esz _ _ _ _ => match hi, evO e mx with
      | some hi, some (.int _ m) => match evO e hi with
        | some (.int _ r) => bndK e lo 0 fun l => 0 ≤ l ∧ l ≤ r ∧ r ≤ m ∧ m ≤ c ∧ cellsK h i fun cs sz wr sp ty => sz = esz ∧
            K ⟨some (if m.toNat = l.toNat then .slice (some ⟨i, noRoomOff cs, none⟩) 0 0 else .slice (some ⟨i, off + l.toNat * esz, none⟩) (r.toNat - l.toNat) (m.toNat - l.toNat)), [(i, .cells cs sz wr sp ty)], [], []⟩
        | _ => False
      | _, _ => False
    | _ => False
  | _, _ => False
def convertK (T : Tys) (src dst : TypeId) (u : Value) (h : AHeap) (K : Eff → Prop) : Prop :=
  match u with
  | .slice p n c => tyK T src fun si => match si.sh with
    | .slice esz _ _ _ et => tyK T et fun ei => match ei.sh with
      | .int .u8 => tyK T dst fun di => match di.sh with
        | .string => (n = 0 ∧ K (pure1 (.string ⟨#[]⟩))) ∨ (esz = 1 ∧ 0 < n ∧ match p with
          | some ⟨i, off, none⟩ => cellsK h i fun cs sz wr sp ty => sz = 1 ∧ off + n ≤ cs.length ∧ ∃ l, (cs.drop off).take n = byteV l ∧ K ⟨some (.string ⟨l.toArray⟩), [(i, .cells cs sz wr sp ty)], [], []⟩
          | _ => False)
        | _ => False
      | _ => False
    | _ => False
  | .func (.yield n) ⟨cs⟩ ⟨[]⟩ => tyK T src fun si => match si.sh with
    | .slice _ _ _ _ et => tyK T et fun ei => match ei.sh with
      | .int .u8 => tyK T dst fun di => match di.sh with
        | .string => ∃ l, cs = byteV l ∧ n = l.length ∧ K (pure1 (.string ⟨l.toArray⟩))
        | _ => False
      | _ => False
    | _ => False
  | .string s => tyK T src fun si => match si.sh with
    | .string => tyK T dst fun di => match di.sh with
      | .string => K (pure1 (.string s))
      | .slice esz _ _ _ et => tyK T et fun ei => match ei.sh with
        | .int .u8 => esz = 1 ∧ K ⟨some (.slice (some ⟨h.length, 0, none⟩) s.size s.size), [], [], [.cells (byteV s.data.toList) 1 true true et]⟩
        | _ => False
      | _ => False
    | _ => False
  | .pointer (some ⟨i, off, none⟩) => tyK T src fun si => tyK T dst fun di => match si.sh, di.sh with
    | .ptr esz _, .uptr => 0 < esz ∧ cellsK h i fun cs sz wr sp ty => off < cs.length ∧ K ⟨some (.pointer (some ⟨i, off, none⟩)), [(i, .cells cs sz wr sp ty)], [], []⟩
    | .uptr, .ptr esz et => 0 < esz ∧ off = 0 ∧ cellsK h i fun cs sz wr sp ty => sp = false ∧ ty = et ∧ esz ≤ cs.length ∧ K ⟨some (.pointer (some ⟨i, 0, none⟩)), [(i, .cells cs sz wr false et)], [], []⟩
    | _, _ => False
  | u => tyK T src fun si => match si.sh with
    | .other => False
    | _ => convK T src dst u fun v => K (pure1 v)
def appendK (T : Tys) (t tx : TypeId) (u v : Value) (h : AHeap) (K : Eff → Prop) : Prop :=
  tyK T t fun ti => tyK T tx fun xi => match ti.sh with
  | .slice esz eb _ _ et => (match xi.sh with | .slice .. | .string => True | _ => False) ∧ srcK h esz v fun rd k news =>
    match u with
    | .slice none 0 0 => (k = 0 ∧ K ⟨some (.slice none 0 0), rd, [], []⟩) ∨
        (0 < k ∧ 0 < esz ∧ Room k eb ∧ K ⟨some (.slice (some ⟨h.length, 0, none⟩) k k), rd, [], [.cells news esz true true et]⟩)
    | .slice (some ⟨i, off, none⟩) n c => (k = 0 ∧ K ⟨some (.slice (some ⟨i, off, none⟩) n c), rd, [], []⟩) ∨
        (0 < k ∧ cellsK h i fun cs sz wr sp ty => sz = esz ∧ Room (n + k) eb ∧ (
          (n + k ≤ c ∧ wr = true ∧ off + c * esz ≤ cs.length ∧ news.all (·.oneCell') = true ∧
            K ⟨some (.slice (some ⟨i, off, none⟩) (n + k) c), (i, .cells cs sz true sp ty) :: rd, [(i, .cells (putL cs (off + n * esz) news) sz true sp ty)], []⟩) ∨
          (c < n + k ∧ (sp = false ∨ off + c * esz ≠ cs.length) ∧ (n = 0 ∨ off + n * esz ≤ cs.length) ∧
            K ⟨some (.slice (some ⟨h.length, 0, none⟩) (n + k) (n + k)), (i, .cells cs sz wr sp ty) :: rd, [], [.cells ((cs.drop off).take (n * esz) ++ news) sz true true et]⟩) ∨
          (c < n + k ∧ sp = true ∧ wr = true ∧ ty = et ∧ off + c * esz = cs.length ∧ n ≤ c ∧ news.all (·.oneCell') = true ∧
            K ⟨some (.slice (some ⟨h.length, 0, none⟩) (n + k) (n + k)), (i, .cells cs sz true true et) :: rd, [(i, .dead)], [.cells ((cs.drop off).take (n * esz) ++ news) sz true true et]⟩)))
    | _ => False
  | _ => False
end Go.Den
namespace Go.Den
open Go Go.RowKit

/-- A call of a built-in function, or of one without a body. -/
def callK (C : Ctx) (c : Call) (e : Env) (h : AHeap) (K : Eff → Prop) : Prop :=
  match c with
  | ⟨.builtin .len, ⟨[x]⟩, ⟨[t]⟩⟩ => evK e x fun u => tyK C.T t fun ti => match u, ti.sh with
    | .string s, .string => K (pure1 (.int .i64 s.size))
    | .slice _ n _, .slice .. => K (pure1 (.int .i64 n))
    | .func (.yield n) ⟨_⟩ ⟨[]⟩, .slice .. => K (pure1 (.int .i64 n))
    | _, _ => False
  | ⟨.builtin .append, ⟨[x, y]⟩, ⟨[t, tx]⟩⟩ => evK e x fun u => evK e y fun v => appendK C.T t tx u v h K
  | ⟨.builtin .min, ⟨[x, y]⟩, _⟩ => evK e x fun u => evK e y fun v => match u, v with
    | .int k m, .int _ n => K (pure1 (.int k (if n < m then n else m)))
    | _, _ => False
  | ⟨.builtin .max, ⟨[x, y]⟩, _⟩ => evK e x fun u => evK e y fun v => match u, v with
    | .int k m, .int _ n => K (pure1 (.int k (if n > m then n else m)))
    | _, _ => False
  | ⟨.builtin .unsafeSliceData, ⟨[x]⟩, _⟩ => evK e x fun u => match u with
    | .slice none _ _ => K (pure1 (.pointer none))
    | .slice (some ⟨i, off, none⟩) n _ => 0 < n ∧ K (pure1 (.pointer (some ⟨i, off, none⟩)))
    | _ => False
  | ⟨.builtin .unsafeString, ⟨[x, y]⟩, ⟨[t, _]⟩⟩ => evK e x fun u => evK e y fun v => match u, v with
    | .pointer none, .int _ n => n = 0 ∧ K (pure1 (.string ⟨#[]⟩))
    | .pointer (some ⟨i, off, none⟩), .int _ n => tyK C.T t fun ti => match ti.sh with
      | .ptr esz et => esz = 1 ∧ cellsK h i fun cs sz wr sp ty => wr = true ∧ ty = et ∧ ∃ l : List UInt8, n = (l.length : Int) ∧ 0 < l.length ∧ l.length ≤ 9223372036854775807 ∧ off + l.length ≤ cs.length ∧ (cs.drop off).take l.length = byteV l ∧
          K ⟨some (.string ⟨l.toArray⟩), [(i, .cells cs sz true sp et)], [(i, .dead)], []⟩
      | _ => False
    | _, _ => False
  | ⟨.builtin .clear, ⟨[x]⟩, ⟨[t]⟩⟩ => evK e x fun u => tyK C.T t fun ti => match u, ti.sh with
    | .slice p n _, .slice esz _ _ ez _ => (n = 0 ∧ K (pure1 (.tuple #[]))) ∨ (0 < n ∧ match p with
      | some ⟨i, off, none⟩ => cellsK h i fun cs sz wr sp ty => sz = esz ∧ wr = true ∧ off + n * esz ≤ cs.length ∧
          K ⟨some (.tuple #[]), [(i, .cells cs sz true sp ty)], [(i, .cells (putL cs off (repL n ez)) sz true sp ty)], []⟩
      | _ => False)
    | _, _ => False
  | ⟨.value (.func f), args, _⟩ => match C.X f with
    | some F => match evA e args.toList with
      | some us => F us fun v => K (pure1 v)
      | none => False
    | none => False
  | _ => False
/-- An operation that is no call of a function with a body. -/
def opK (C : Ctx) (o : Oper) (e : Env) (h : AHeap) (K : Eff → Prop) : Prop :=
  match o.op with
  | .move x => evK e x fun v => K (pure1 v)
  | .assign x => evK e x fun v => K (pure1 v)
  | .pick c a b => evK e c fun c => match c with
    | .bool t => brP t (evK e a fun v => K (pure1 v)) (evK e b fun v => K (pure1 v))
    | _ => False
  | .alloc t => tyK C.T t fun ti => K ⟨some (newPtr h), [], [], [.cells ti.zero 1 true false t]⟩
  | .box t x => evK e x fun v => K ⟨some (newPtr h), [], [], [.cells v.cells.toList 1 true false t]⟩
  | .build t ps => tyK C.T t fun ti => match ti.sh with
    | .struct fs => match evL e ps.toList with
      | some l => match fillL (placesOf fs) ti.zero l with
        | some out => K (pure1 (.agg out.toArray))
        | none => False
      | none => False
    | .arr _ esz _ => match evL e ps.toList with
      | some l => match fillL (elPl esz) ti.zero l with
        | some out => K (pure1 (.agg out.toArray))
        | none => False
      | none => False
    | _ => False
  | .buildSlice t n ps => tyK C.T t fun ti => match ti.sh with
    | .slice esz _ _ ez et => match evL e ps.toList with
      | some l => match fillL (elPl esz) (repL n ez) l with
        | some out => 0 < esz ∧ out.length = n * esz ∧ n * esz ≤ 16777216 ∧ K ⟨some (.slice (some ⟨h.length, 0, none⟩) n n), [], [], [.cells out esz true false et]⟩
        | none => False
      | none => False
    | _ => False
  | .load t x => evK e x fun p => loadK C.T t p h K
  | .store t x y => evK e x fun p => evK e y fun v => storeK C.T t p v h K
  | .nilCheck x => evK e x fun v => match v with
    | .pointer (some _) => K (pure1 v)
    | .func (.func _) _ _ => K (pure1 v)
    | .func (.yield _) ⟨_⟩ ⟨[.bool true]⟩ => K (pure1 v)
    | _ => False
  | .binOp op t x y _ => evK e x fun u => evK e y fun v => binK C.T op t (isConst x || isConst y) u v fun r => K (pure1 r)
  | .unOp op _ x => evK e x fun u => unK op u fun r => K (pure1 r)
  | .convert s d x => evK e x fun u => convertK C.T s d u h K
  | .makeInterface t x => evK e x fun v => tyK C.T t fun ti => match ti.sh with
    | .iface => False
    | .other => False
    | _ => K (pure1 (.iface t v))
  | .makeFunc f a b => match notY f with
    | true => match evA e a.toList with
      | some us => match evA e b.toList with
        | some vs => K (pure1 (.func f us.toArray vs.toArray))
        | none => False
      | none => False
    | false => False
  | .makeSlice t x y => evK e x fun u => evK e y fun v => match u, v with
    | .int _ n, .int _ c => tyK C.T t fun ti => match ti.sh with
      | .slice esz eb _ ez et => 0 < esz ∧ MkB n c eb ∧
          K ⟨some (.slice (some ⟨h.length, 0, none⟩) n.toNat c.toNat), [], [], [.cells (repL c.toNat ez) esz true false et]⟩
      | _ => False
    | _, _ => False
  | .slice t x lo hi mx => evK e x fun u => sliceK C.T t u e h lo hi mx K
  | .fieldAddr t x f => evK e x fun u => fieldAddrK C.T t u f K
  | .field t x f => evK e x fun u => fieldK C.T t u f K
  | .indexAddr t x i => evK e x fun u => evK e i fun v => idxAddrK C.T t u v K
  | .index t x i => evK e x fun u => evK e i fun v => idxK C.T t u v K
  | .range t x => evK e x fun u => match u with
    | .string s => tyK C.T t fun ti => match ti.sh with
      | .string => K ⟨some (newPtr h), [], [], [.iter s 0]⟩
      | _ => False
    | _ => False
  | .next x true => evK e x fun u => match u with
    | .pointer (some ⟨i, 0, none⟩) => ∃ s pos, h[i]? = some (.iter s pos) ∧
        (pos < s.size → K ⟨some (.tuple #[.bool true, .int .i64 pos, .int .i32 (Utf8.decode s pos).1]), [(i, .iter s pos)], [(i, .iter s (pos + (Utf8.decode s pos).2))], []⟩) ∧
        (¬ pos < s.size → K ⟨some (.tuple #[.bool false]), [(i, .iter s pos)], [], []⟩)
    | _ => False
  | .extract x i => evK e x fun u => match u with
    | .tuple vs => ∃ v, vs.toList[i]? = some v ∧ K (pure1 v)
    | _ => False
  | .call c => callK C c e h K
  | .makeMap t none => K ⟨some (.map (some h.length)), [], [], [.map [] 0]⟩
  | .lookup t x y ok => evK e x fun u => evK e y fun v => match u with
    | .map (some i) => tyK C.T t fun ti => match ti.sh with
      | .map ks ez => keyOk ks v = true ∧ ∃ es ck r, h[i]? = some (.map es ck) ∧ mfind ks v es = some r ∧ K ⟨some (lookV ez r ok), [(i, .map es ck)], [], []⟩
      | _ => False
    | _ => False
  | .mapUpdate t x y z => evK e x fun u => evK e y fun v => evK e z fun q => match u with
    | .map (some i) => tyK C.T t fun ti => match ti.sh with
      | .map ks ez => keyOk ks v = true ∧ ∃ es ck r, h[i]? = some (.map es ck) ∧ mfind ks v es = some r ∧ K ⟨none, [(i, .map es ck)], [(i, updM es ck r v q)], []⟩
      | _ => False
    | _ => False
  | .insert t x y z => evK e x fun u => evK e y fun v => evK e z fun q => match u with
    | .map (some i) => tyK C.T t fun ti => match ti.sh with
      | .map ks ez => keyOk ks v = true ∧ ∃ es ck r, h[i]? = some (.map es ck) ∧ mfind ks v es = some r ∧ K ⟨none, [(i, .map es ck)], [(i, updM es ck r v q)], []⟩
      | _ => False
    | _ => False
  | _ => False

theorem evK_of {e : Env} {x : Operand} {K : Value → Prop} (h : evK e x K) : ∃ v, evO e x = some v ∧ K v := evK_ex h
theorem Does.ld {P : Program} {W0 : World} {o : Oper} {e : Env} {h : AHeap} {v : Value} {i : Nat} {b : ABlk} (s : OpSem P W0 o e [(i, b)] [] [] (some v)) (hb : h[i]? = some b) : Does P W0 o e h ⟨some v, [(i, b)], [], []⟩ :=
  ⟨s, (fun p hp => by rw [List.mem_singleton.mp hp]; exact hb), (fun p hp => nomatch hp)⟩
theorem Does.rds {P : Program} {W0 : World} {o : Oper} {e : Env} {h : AHeap} {v : Value} {rd : List (Nat × ABlk)} (s : OpSem P W0 o e rd [] [] (some v)) (hb : ∀ p ∈ rd, h[p.1]? = some p.2) : Does P W0 o e h ⟨some v, rd, [], []⟩ :=
  ⟨s, hb, (fun p hp => nomatch hp)⟩
theorem Does.nw {P : Program} {W0 : World} {o : Oper} {e : Env} {h : AHeap} {v : Value} {rd : List (Nat × ABlk)} {b : ABlk} (s : OpSem P W0 o e rd [] [(h.length, b)] (some v)) (hb : ∀ p ∈ rd, h[p.1]? = some p.2) : Does P W0 o e h ⟨some v, rd, [], [b]⟩ :=
  ⟨s, hb, (fun p hp => nomatch hp)⟩
theorem rd_nil {h : AHeap} : ∀ p ∈ ([] : List (Nat × ABlk)), h[p.1]? = some p.2 := fun p hp => nomatch hp
theorem toNat_lt {j : Int} {n : Nat} (h0 : 0 ≤ j) (h : j < n) : j.toNat < n := by omega

section
variable {C : Ctx} (hC : C.Ok) {o : Oper} {e : Env} {h : AHeap} {K : Eff → Prop}
include hC
theorem load_sound {t : TypeId} {x : Operand} {p : Value} (ho : o.op = .load t x) (hx : evO e x = some p) (q : loadK C.T t p h K) : ∃ f, Does C.P C.W0 o e h f ∧ K f := by
  unfold loadK at q
  split at q
  · rename_i i off
    obtain ⟨ti, ht, cs, sz, wr, sp, ty, hb, q⟩ := tyK_ex q
    cases ha : ti.agg with
    | true =>
      rw [ha] at q
      obtain ⟨q1, out, rfl, q2⟩ := q
      exact ⟨_, .ld (does_load hC.ty ht ho hx (by rw [ha, if_pos rfl]; exact ⟨q1.le, rfl⟩)) hb, q2⟩
    | false =>
      rw [ha] at q
      obtain ⟨v, hv, q⟩ := q
      exact ⟨_, .ld (does_load hC.ty ht ho hx (by rw [ha]; simpa using hv)) hb, q⟩
  · obtain ⟨ti, ht, q⟩ := tyK_ex q
    cases ha : ti.agg with
    | true =>
      rw [ha] at q
      obtain ⟨q1, out, rfl, q2⟩ := q
      exact ⟨_, .pure (does_loadL hC.ty ht ho hx (by rw [ha, if_pos rfl]; exact ⟨q1.le, rfl⟩)), q2⟩
    | false =>
      rw [ha] at q
      obtain ⟨v, hv, q⟩ := q
      exact ⟨_, .pure (does_loadL hC.ty ht ho hx (by rw [ha]; simpa using hv)), q⟩
  · exact q.elim
theorem store_sound {t : TypeId} {x y : Operand} {p v : Value} (ho : o.op = .store t x y) (hx : evO e x = some p) (hy : evO e y = some v) (q : storeK C.T t p v h K) : ∃ f, Does C.P C.W0 o e h f ∧ K f := by
  unfold storeK at q
  split at q
  · rename_i i off
    obtain ⟨ti, ht, cs, sz, wr, sp, ty, hb, rfl, q1, q2, q3, q⟩ := tyK_ex q
    exact ⟨_, ⟨does_store hC.ty ht ho hx hy q1 (by rw [q1]; exact q2.le) q3, (fun p hp => by rw [List.mem_singleton.mp hp]; exact hb), (fun p hp => by rw [List.mem_singleton.mp hp]; exact ⟨_, List.mem_singleton.mpr rfl⟩)⟩, q⟩
  · exact q.elim
theorem idx_sound {t : TypeId} {x y : Operand} {u v : Value} (ho : o.op = .index t x y) (hx : evO e x = some u) (hy : evO e y = some v) (q : idxK C.T t u v K) : ∃ f, Does C.P C.W0 o e h f ∧ K f := by
  unfold idxK at q
  split at q
  · obtain ⟨ti, ht, q⟩ := tyK_ex q
    split at q
    · rename_i hsh
      exact ⟨_, .pure (does_indexS hC.ty ht hsh ho hx hy q.1.lo q.1.hi), q.2⟩
    · exact q.elim
  · obtain ⟨ti, ht, q⟩ := tyK_ex q
    split at q
    · rename_i n esz ea hsh
      obtain ⟨q0, q⟩ := q
      have q1 := q0.lo
      have q2 := q0.hi
      cases ea with
      | true => exact ⟨_, .pure (does_indexA hC.ty ht hsh ho hx hy q1 q2 (by simp [partV])), q⟩
      | false =>
        obtain ⟨v, hv, q⟩ := q
        exact ⟨_, .pure (does_indexA hC.ty ht hsh ho hx hy q1 q2 (by simpa [partV] using hv)), q⟩
    · exact q.elim
  · exact q.elim
theorem idxAddr_sound {t : TypeId} {x y : Operand} {u v : Value} (ho : o.op = .indexAddr t x y) (hx : evO e x = some u) (hy : evO e y = some v) (q : idxAddrK C.T t u v K) : ∃ f, Does C.P C.W0 o e h f ∧ K f := by
  unfold idxAddrK at q
  split at q
  · obtain ⟨ti, ht, q⟩ := tyK_ex q
    split at q
    · rename_i hsh
      exact ⟨_, .pure (does_indexAddr hC.ty ht hsh ho hx hy q.1.lo q.1.hi), q.2⟩
    · exact q.elim
  · obtain ⟨ti, ht, q⟩ := tyK_ex q
    split at q
    · rename_i hsh
      exact ⟨_, .pure (does_indexL hC.ty ht hsh ho hx hy q.1.lo q.1.hi), q.2⟩
    · exact q.elim
  · obtain ⟨ti, ht, q⟩ := tyK_ex q
    split at q
    · rename_i hsh
      exact ⟨_, .pure (does_indexAddrA hC.ty ht hsh ho hx hy q.1.lo q.1.hi), q.2⟩
    · exact q.elim
  · exact q.elim
theorem fieldAddr_sound {t : TypeId} {x : Operand} {k : Nat} {u : Value} (ho : o.op = .fieldAddr t x k) (hx : evO e x = some u) (q : fieldAddrK C.T t u k K) : ∃ f, Does C.P C.W0 o e h f ∧ K f := by
  unfold fieldAddrK at q
  split at q
  · obtain ⟨ti, ht, q⟩ := tyK_ex q
    split at q
    · rename_i hsh
      split at q
      · rename_i x hk
        refine ⟨_, .pure (does_fieldAddr hC.ty ht hsh hk (fun z => ?_) ho hx), q.2⟩
        have := q.1; rw [z] at this; cases this
      · exact q.elim
    · exact q.elim
  · obtain ⟨ti, ht, q⟩ := tyK_ex q
    split at q
    · rename_i hsh
      split at q
      · rename_i x hk
        refine ⟨_, .pure (does_fieldAddrL hC.ty ht hsh hk (fun z => ?_) ho hx), q.2⟩
        have := q.1; rw [z] at this; cases this
      · exact q.elim
    · exact q.elim
  · exact q.elim
theorem field_sound {t : TypeId} {x : Operand} {k : Nat} {u : Value} (ho : o.op = .field t x k) (hx : evO e x = some u) (q : fieldK C.T t u k K) : ∃ f, Does C.P C.W0 o e h f ∧ K f := by
  unfold fieldK at q
  split at q
  · obtain ⟨ti, ht, q⟩ := tyK_ex q
    split at q
    · rename_i hsh
      split at q
      · rename_i y hk
        cases ha : y.2.2 with
        | true =>
          rw [ha] at q
          exact ⟨_, .pure (does_field hC.ty ht hsh hk ho hx (by rw [ha]; simp [partV])), q⟩
        | false =>
          rw [ha] at q
          obtain ⟨v, hv, q⟩ := q
          exact ⟨_, .pure (does_field hC.ty ht hsh hk ho hx (by rw [ha]; simpa [partV] using hv)), q⟩
      · exact q.elim
    · exact q.elim
  · exact q.elim
theorem slice_sound {t : TypeId} {x : Operand} {lo hi mx : Option Operand} {u : Value} (ho : o.op = .slice t x lo hi mx) (hx : evO e x = some u) (q : sliceK C.T t u e h lo hi mx K) : ∃ f, Does C.P C.W0 o e h f ∧ K f := by
  unfold sliceK at q
  split at q
  · obtain ⟨ti, ht, q⟩ := tyK_ex q
    split at q
    · rename_i hsh
      obtain ⟨l, q, b1, _⟩ := bndK_ex q
      obtain ⟨r, q, b2, _⟩ := bndK_ex q
      obtain ⟨q0, q⟩ := q
      have q1 := q0.lo
      have q2 := q0.mid
      have q3 := q0.hi
      exact ⟨_, .pure (does_sliceS hC.ty ht hsh ho hx (b1 q1) (b2 (by omega)) (by omega) (by omega)), q⟩
    · exact q.elim
  · obtain ⟨ti, ht, q⟩ := tyK_ex q
    split at q
    · rename_i hsh
      obtain ⟨l, q, b1, _⟩ := bndK_ex q
      obtain ⟨r, q, b2, _⟩ := bndK_ex q
      obtain ⟨q0, q4, out, rfl, q⟩ := q
      have q1 := q0.lo
      have q2 := q0.mid
      have q3 := q0.hi
      exact ⟨_, .pure (does_sliceL hC.ty ht hsh ho hx (b1 q1) (b2 (by omega)) (by omega) (by omega) q4), q⟩
    · exact q.elim
  · obtain ⟨ti, ht, q⟩ := tyK_ex q
    split at q
    · rename_i hsh
      obtain ⟨l, q, b1, _⟩ := bndK_ex q
      obtain ⟨r, q, b2, _⟩ := bndK_ex q
      obtain ⟨q0, q⟩ := q
      have q1 := q0.lo
      have q2 := q0.mid
      have q3 := q0.hi
      exact ⟨_, .pure (does_sliceN hC.ty ht hsh ho hx (b1 q1) (b2 (by omega)) (by omega) (by omega)), q⟩
    · exact q.elim
  · obtain ⟨ti, ht, q⟩ := tyK_ex q
    split at q
    · rename_i hsh
      obtain ⟨l, q, b1, _⟩ := bndK_ex q
      obtain ⟨r, q, b2, _⟩ := bndK_ex q
      obtain ⟨q0, cs, sz, wr, sp, ty, hb, rfl, q⟩ := q
      have q1 := q0.lo
      have q2 := q0.mid
      have q3 := q0.hi
      exact ⟨_, .ld (does_slice hC.ty ht hsh ho hx (b1 q1) (b2 (by omega)) (by omega) (by omega)) hb, q⟩
    · exact q.elim
  · obtain ⟨ti, ht, q⟩ := tyK_ex q
    split at q
    · rename_i hsh
      split at q
      · rename_i hi' k2 m hm hz_
        split at q
        · rename_i k3 r hr
          obtain ⟨l, q, b1, _⟩ := bndK_ex q
          obtain ⟨q1, q2, q3, q4, cs, sz, wr, sp, ty, hb, rfl, q⟩ := q
          have e1 : evO e hi' = some (.int k3 (r.toNat : Int)) := by rw [hr, Int.toNat_of_nonneg (by omega)]
          have e2 := hm
          rw [show m = ((m.toNat : Nat) : Int) by omega] at e2
          exact ⟨_, .ld (does_slice3 hC.ty ht hsh ho hx (b1 q1) e1 e2 (by omega) (by omega) (by omega)) hb, q⟩
        · exact q.elim
      · exact q.elim
    · exact q.elim
  · exact q.elim
end
end Go.Den
namespace Go.Den
open Go Go.RowKit
section
variable {C : Ctx} (hC : C.Ok) {o : Oper} {e : Env} {h : AHeap} {K : Eff → Prop}
include hC
theorem und_ex {t : TypeId} {ti : TyI} (ht : C.T.get t = some ti) : ∃ d, C.P.underlying t = some d := by
  obtain ⟨info, d, zv, h1, h2, h3, h4, h5, h6, _⟩ := (hC.ty t ti ht).1.ex
  exact ⟨d, h6⟩
theorem convert_sound {s d : TypeId} {x : Operand} {u : Value} (ho : o.op = .convert s d x) (hx : evO e x = some u) (q : convertK C.T s d u h K) : ∃ f, Does C.P C.W0 o e h f ∧ K f := by
  unfold convertK at q
  split at q
  · obtain ⟨si, hs, q⟩ := tyK_ex q
    split at q
    · rename_i hss
      obtain ⟨ei, he, q⟩ := tyK_ex q
      split at q
      · rename_i hes
        obtain ⟨di, hd, q⟩ := tyK_ex q
        split at q
        · rename_i hds
          rcases q with ⟨rfl, q9⟩ | ⟨rfl, hn, q9⟩
          · exact ⟨_, .pure (does_convBN hC.ty hs hd he hss hds hes ho hx), q9⟩
          · split at q9
            · obtain ⟨cs, sz, wr, sp, ty, hb, rfl, hle, l, hl, q8⟩ := q9
              exact ⟨_, .ld (does_convBS hC.ty hs hd he hss hds hes ho hx hn hl hle) hb, q8⟩
            · exact q9.elim
        · exact q.elim
      · exact q.elim
    · exact q.elim
  · obtain ⟨si, hs, q⟩ := tyK_ex q
    split at q
    · rename_i hss
      obtain ⟨ei, he, q⟩ := tyK_ex q
      split at q
      · rename_i hes
        obtain ⟨di, hd, q⟩ := tyK_ex q
        split at q
        · rename_i hds
          obtain ⟨l, rfl, rfl, q9⟩ := q
          exact ⟨_, .pure (does_convLS hC.ty hs hd he hss hds hes ho hx), q9⟩
        · exact q.elim
      · exact q.elim
    · exact q.elim
  · rename_i str
    obtain ⟨si, hs, q⟩ := tyK_ex q
    split at q
    · rename_i hss
      obtain ⟨di, hd, q⟩ := tyK_ex q
      split at q
      · rename_i hds
        have hc : convK C.T s d (.string str) fun v => K (pure1 v) := by
          unfold convK tyK; rw [hs]; simp only [hss]; rw [hd]; simp only [hds]; exact q
        obtain ⟨r, hr, hd'⟩ := does_conv (W0 := C.W0) hC.ty ho hx hc (und_ex hC hs)
        exact ⟨_, .pure hd', hr⟩
      · rename_i hds
        obtain ⟨ei, he, q⟩ := tyK_ex q
        split at q
        · rename_i hes
          obtain ⟨rfl, q9⟩ := q
          exact ⟨_, .nw (does_convSB hC.ty hs hd he hss hds hes h.length ho hx) rd_nil, q9⟩
        · exact q.elim
      · exact q.elim
    · exact q.elim
  · obtain ⟨si, hs, q⟩ := tyK_ex q
    obtain ⟨di, hd, q⟩ := tyK_ex q
    split at q
    · rename_i hss hds
      obtain ⟨q1, cs, sz, wr, sp, ty, hb, q2, q3⟩ := q
      exact ⟨_, .ld (does_toUnsafe hC.ty hs hd hss hds ho hx q1 q2) hb, q3⟩
    · rename_i hss hds
      obtain ⟨q1, rfl, cs, sz, wr, sp, ty, hb, rfl, rfl, q2, q3⟩ := q
      exact ⟨_, .ld (does_fromUnsafe hC.ty hs hd hss hds ho hx q1 q2) hb, q3⟩
    · exact q.elim
  · obtain ⟨si, hs, q⟩ := tyK_ex q
    split at q
    · exact q.elim
    · obtain ⟨r, hr, hd'⟩ := does_conv (W0 := C.W0) hC.ty ho hx q (und_ex hC hs)
      exact ⟨_, .pure hd', hr⟩
theorem append_sound {t tx : TypeId} {x y : Operand} {u v : Value} (ho : o.op = .call ⟨.builtin .append, #[x, y], #[t, tx]⟩) (hx : evO e x = some u) (hy : evO e y = some v) (q : appendK C.T t tx u v h K) : ∃ f, Does C.P C.W0 o e h f ∧ K f := by
  unfold appendK at q
  obtain ⟨ti, ht, q⟩ := tyK_ex q
  obtain ⟨xi, hxt, q⟩ := tyK_ex q
  split at q
  · rename_i hsh
    obtain ⟨hxs, q⟩ := q
    have hA := AppT.of hC.ty ht hxt hsh (by revert hxs; cases xi.sh <;> simp)
    obtain ⟨rd, k, news, hS, hrd, q1⟩ := srcK_ex q
    split at q1
    · rcases q1 with ⟨rfl, q2⟩ | ⟨h0, h1, h2, q2⟩
      · exact ⟨_, .rds (does_append0 hA ho hx (fun _ => ⟨rfl, rfl⟩) hy hS) hrd, q2⟩
      · exact ⟨_, .nw (does_appendNil hA h1 ho hx hy hS h0 h2.a h2.b) hrd, q2⟩
    · rcases q1 with ⟨rfl, q2⟩ | ⟨h0, cs, sz, wr, sp, ty, hb, rfl, h2, q2⟩
      · exact ⟨_, .rds (does_append0 hA ho hx (fun z => by cases z) hy hS) hrd, q2⟩
      · have hrd' : ∀ {j : Nat} {b : ABlk}, h[j]? = some b → ∀ p ∈ (j, b) :: rd, h[p.1]? = some p.2 := fun {j b} hb p hp => by
          rcases List.mem_cons.mp hp with hp | hp
          · rw [hp]; exact hb
          · exact hrd p hp
        rcases q2 with ⟨g1, rfl, g2, g3, q3⟩ | ⟨g1, g2, g3, q3⟩ | ⟨g1, rfl, rfl, rfl, g2, g3, g4, q3⟩
        · exact ⟨_, ⟨does_appendFit hA ho hx hy hS h0 g1 g2 g3, hrd' hb, (fun p hp => by rw [List.mem_singleton.mp hp]; exact ⟨_, List.mem_cons_self ..⟩)⟩, q3⟩
        · exact ⟨_, .nw (does_appendNew hA ho hx hy hS g1 g2 g3 h2.a h2.b) (hrd' hb), q3⟩
        · exact ⟨_, ⟨does_appendMove hA ho hx hy hS h0 g1 g2 g3 g4 h2.a h2.b, hrd' hb, (fun p hp => by rw [List.mem_singleton.mp hp]; exact ⟨_, List.mem_cons_self ..⟩)⟩, q3⟩
    · exact q1.elim
  · exact q.elim
theorem ext_sound {f : FuncId} {args : Array Operand} {ts : Array TypeId} {F : ExtK} (ho : o.op = .call ⟨.value (.func f), args, ts⟩) (hF : C.X f = some F) {us : List Value} (hu : evA e args.toList = some us) (q : F us fun v => K (pure1 v)) : ∃ f, Does C.P C.W0 o e h f ∧ K f := by
  obtain ⟨v, hv, hr⟩ := hC.ext f F hF us _ q
  refine ⟨_, .pure (.of_run fun ρ hh w a hR hO hrd => ?_), hv⟩
  have hL := evA_rel (ρ := ρ) (a := a) args.toList us (fun x hx v hv => hO x (mem_call ho (Array.mem_toList_iff.mp hx)) v hv) hu
  obtain ⟨v', hV, hr⟩ := hr ρ w _ hL
  refine ⟨v', hV, ?_⟩
  have heq : args.map a.eval = (args.toList.map a.eval).toArray := by
    apply Array.ext'
    rw [Array.toList_map]
  have hev : a.eval (.func f) = .func (.func f) #[] #[] := rfl
  simp [execOp, ho, resolve, hev, Deferred.ofValue, invoke, heq, hr]
theorem opK_sound (q : opK C o e h K) : ∃ f, Does C.P C.W0 o e h f ∧ K f := by
  obtain ⟨dst, op, ty, pos, after, guard⟩ := o
  unfold opK at q
  cases op <;> simp only at q <;> try (exact q.elim)
  case move x =>
    obtain ⟨v, hv, q⟩ := evK_ex q
    exact ⟨_, .pure (opSem_move (.inl rfl) hv), q⟩
  case assign x =>
    obtain ⟨v, hv, q⟩ := evK_ex q
    exact ⟨_, .pure (opSem_move (.inr rfl) hv), q⟩
  case pick c a b =>
    obtain ⟨v, hv, q⟩ := evK_ex q
    split at q
    · rename_i t
      rcases brP.cases q with ⟨rfl, q⟩ | ⟨rfl, q⟩ <;> obtain ⟨u, hu, q⟩ := evK_ex q
      · exact ⟨_, .pure (does_pick rfl hv (by simpa using hu)), q⟩
      · exact ⟨_, .pure (does_pick rfl hv (by simpa using hu)), q⟩
    · exact q.elim
  case alloc t =>
    obtain ⟨ti, ht, q⟩ := tyK_ex q
    exact ⟨_, .nw (does_alloc hC.ty ht h.length rfl) rd_nil, q⟩
  case box t x =>
    obtain ⟨v, hv, q⟩ := evK_ex q
    exact ⟨_, .nw (does_box h.length rfl hv) rd_nil, q⟩
  case build t ps =>
    obtain ⟨ti, ht, q⟩ := tyK_ex q
    split at q
    · rename_i hsh
      split at q
      · rename_i l hl
        split at q
        · rename_i out hf
          exact ⟨_, .pure (does_build hC.ty ht hsh rfl hl hf), q⟩
        · exact q.elim
      · exact q.elim
    · rename_i hsh
      split at q
      · rename_i l hl
        split at q
        · rename_i out hf
          exact ⟨_, .pure (does_buildArr hC.ty ht hsh rfl hl hf), q⟩
        · exact q.elim
      · exact q.elim
    · exact q.elim
  case buildSlice t n ps =>
    obtain ⟨ti, ht, q⟩ := tyK_ex q
    split at q
    · rename_i hsh
      split at q
      · rename_i l hl
        split at q
        · rename_i out hf
          obtain ⟨q1, q2, q3, q⟩ := q
          exact ⟨_, .nw (does_buildSlice hC.ty ht hsh q1 h.length rfl hl hf q2 q3) rd_nil, q⟩
        · exact q.elim
      · exact q.elim
    · exact q.elim
  case load t x =>
    obtain ⟨v, hv, q⟩ := evK_ex q
    exact load_sound hC rfl hv q
  case store t x y =>
    obtain ⟨v, hv, q⟩ := evK_ex q
    obtain ⟨u, hu, q⟩ := evK_ex q
    exact store_sound hC rfl hv hu q
  case nilCheck x =>
    obtain ⟨v, hv, q⟩ := evK_ex q
    split at q
    · exact ⟨_, .pure (does_nilCheck rfl hv (.inl ⟨_, rfl⟩)), q⟩
    · exact ⟨_, .pure (does_nilCheck rfl hv (.inr ⟨_, _, _, rfl⟩)), q⟩
    · exact ⟨_, .pure (does_nilCheckL rfl hv), q⟩
    · exact q.elim
  case binOp op t x y yt =>
    obtain ⟨v, hv, q⟩ := evK_ex q
    obtain ⟨u, hu, q⟩ := evK_ex q
    obtain ⟨r, hr, hd⟩ := does_bin (o := ⟨dst, .binOp op t x y yt, ty, pos, after, guard⟩) (W0 := C.W0) hC.ty hC.pl rfl hv hu q
    exact ⟨_, .pure hd, hr⟩
  case unOp op t x =>
    obtain ⟨v, hv, q⟩ := evK_ex q
    obtain ⟨r, hr, hd⟩ := does_un (o := ⟨dst, .unOp op t x, ty, pos, after, guard⟩) (P := C.P) (W0 := C.W0) rfl hv q
    exact ⟨_, .pure hd, hr⟩
  case convert s d x =>
    obtain ⟨v, hv, q⟩ := evK_ex q
    exact convert_sound hC rfl hv q
  case makeInterface t x =>
    obtain ⟨v, hv, q⟩ := evK_ex q
    obtain ⟨ti, ht, q⟩ := tyK_ex q
    split at q
    · exact q.elim
    · exact q.elim
    · rename_i n1 n2
      exact ⟨_, .pure (does_mkIface hC.ty ht (by revert n1 n2; cases ti.sh <;> simp) rfl hv), q⟩
  case makeFunc f a b =>
    split at q
    · rename_i hf
      split at q
      · rename_i us hu
        split at q
        · rename_i vs hv
          exact ⟨_, .pure (does_mkFunc hf rfl hu hv), q⟩
        · exact q.elim
      · exact q.elim
    · exact q.elim
  case makeSlice t x y =>
    obtain ⟨v, hv, q⟩ := evK_ex q
    obtain ⟨u, hu, q⟩ := evK_ex q
    split at q
    · rename_i k1 n k2 c hz_
      obtain ⟨ti, ht, q⟩ := tyK_ex q
      split at q
      · rename_i eb _ ez et hsh
        obtain ⟨q1, qm, q⟩ := q
        obtain ⟨q2, q3, q4, q5⟩ := qm.ex
        rw [show n = ((n.toNat : Nat) : Int) by omega] at hv
        rw [show c = ((c.toNat : Nat) : Int) by omega] at hu q4
        exact ⟨_, .nw (does_makeSlice hC.ty ht hsh q1 h.length rfl hv hu (by omega) (by rw [← Int.natCast_mul] at q4; omega) (by omega)) rd_nil, q⟩
      · exact q.elim
    · exact q.elim
  case slice t x lo hi mx =>
    obtain ⟨v, hv, q⟩ := evK_ex q
    exact slice_sound hC rfl hv q
  case fieldAddr t x f =>
    obtain ⟨v, hv, q⟩ := evK_ex q
    exact fieldAddr_sound hC rfl hv q
  case field t x f =>
    obtain ⟨v, hv, q⟩ := evK_ex q
    exact field_sound hC rfl hv q
  case indexAddr t x i =>
    obtain ⟨v, hv, q⟩ := evK_ex q
    obtain ⟨u, hu, q⟩ := evK_ex q
    exact idxAddr_sound hC rfl hv hu q
  case index t x i =>
    obtain ⟨v, hv, q⟩ := evK_ex q
    obtain ⟨u, hu, q⟩ := evK_ex q
    exact idx_sound hC rfl hv hu q
  case range t x =>
    obtain ⟨v, hv, q⟩ := evK_ex q
    split at q
    · obtain ⟨ti, ht, q⟩ := tyK_ex q
      split at q
      · rename_i hsh
        exact ⟨_, .nw (does_range hC.ty ht hsh h.length rfl hv) rd_nil, q⟩
      · exact q.elim
    · exact q.elim
  case next x b =>
    cases b with
    | false => exact q.elim
    | true =>
      obtain ⟨v, hv, q⟩ := evK_ex q
      split at q
      · obtain ⟨s, pos, hb, q1, q2⟩ := q
        by_cases hp : pos < s.size
        · exact ⟨_, ⟨does_next rfl hv hp, (fun p hp => by rw [List.mem_singleton.mp hp]; exact hb), (fun p hp => by rw [List.mem_singleton.mp hp]; exact ⟨_, List.mem_singleton.mpr rfl⟩)⟩, q1 hp⟩
        · exact ⟨_, .ld (does_nextEnd rfl hv hp) hb, q2 hp⟩
      · exact q.elim
  case makeMap t r =>
    cases r with
    | none => exact ⟨_, .nw (does_makeMap h.length rfl) rd_nil, q⟩
    | some _ => exact q.elim
  case lookup t x y ok =>
    obtain ⟨u, hu, q⟩ := evK_ex q
    obtain ⟨v, hv, q⟩ := evK_ex q
    split at q
    · obtain ⟨ti, ht, q⟩ := tyK_ex q
      split at q
      · rename_i hsh
        obtain ⟨hk, es, ck, r, hb, hf, q⟩ := q
        exact ⟨_, .ld (does_lookup hC.ty ht hsh rfl hu hv hk hf) hb, q⟩
      · exact q.elim
    · exact q.elim
  case mapUpdate t x y z =>
    obtain ⟨u, hu, q⟩ := evK_ex q
    obtain ⟨v, hv, q⟩ := evK_ex q
    obtain ⟨z', hz, q⟩ := evK_ex q
    split at q
    · obtain ⟨ti, ht, q⟩ := tyK_ex q
      split at q
      · rename_i hsh
        obtain ⟨hk, es, ck, r, hb, hf, q⟩ := q
        exact ⟨_, ⟨does_mapUpdate hC.ty ht hsh (.inl rfl) hu hv hz hk hf, (fun p hp => by rw [List.mem_singleton.mp hp]; exact hb), (fun p hp => by rw [List.mem_singleton.mp hp]; exact ⟨_, List.mem_singleton.mpr rfl⟩)⟩, q⟩
      · exact q.elim
    · exact q.elim
  case insert t x y z =>
    obtain ⟨u, hu, q⟩ := evK_ex q
    obtain ⟨v, hv, q⟩ := evK_ex q
    obtain ⟨z', hz, q⟩ := evK_ex q
    split at q
    · obtain ⟨ti, ht, q⟩ := tyK_ex q
      split at q
      · rename_i hsh
        obtain ⟨hk, es, ck, r, hb, hf, q⟩ := q
        exact ⟨_, ⟨does_mapUpdate hC.ty ht hsh (.inr rfl) hu hv hz hk hf, (fun p hp => by rw [List.mem_singleton.mp hp]; exact hb), (fun p hp => by rw [List.mem_singleton.mp hp]; exact ⟨_, List.mem_singleton.mpr rfl⟩)⟩, q⟩
      · exact q.elim
    · exact q.elim
  case extract x i =>
    obtain ⟨v, hv, q⟩ := evK_ex q
    split at q
    · obtain ⟨u, hu, q⟩ := q
      exact ⟨_, .pure (does_extract rfl hv hu), q⟩
    · exact q.elim
  case call c =>
    unfold callK at q
    split at q
    · rename_i x t
      obtain ⟨u, hu, q⟩ := evK_ex q
      obtain ⟨ti, ht, q⟩ := tyK_ex q
      split at q
      · rename_i hsh _
        exact ⟨_, .pure (does_lenS hC.ty ht hsh rfl hu), q⟩
      · rename_i hsh _
        exact ⟨_, .pure (does_lenL hC.ty ht hsh rfl hu), q⟩
      · rename_i hsh _
        exact ⟨_, .pure (does_lenLV hC.ty ht hsh rfl hu), q⟩
      · exact q.elim
    · obtain ⟨u, hu, q⟩ := evK_ex q
      obtain ⟨v, hv, q⟩ := evK_ex q
      exact append_sound hC rfl hu hv q
    · obtain ⟨u, hu, q⟩ := evK_ex q
      obtain ⟨v, hv, q⟩ := evK_ex q
      split at q
      · exact ⟨_, .pure (does_min rfl hu hv), q⟩
      · exact q.elim
    · obtain ⟨u, hu, q⟩ := evK_ex q
      obtain ⟨v, hv, q⟩ := evK_ex q
      split at q
      · exact ⟨_, .pure (does_max rfl hu hv), q⟩
      · exact q.elim
    · obtain ⟨u, hu, q⟩ := evK_ex q
      split at q
      · exact ⟨_, .pure (does_sliceDataN rfl hu), q⟩
      · exact ⟨_, .pure (does_sliceData rfl hu q.1), q.2⟩
      · exact q.elim
    · obtain ⟨u, hu, q⟩ := evK_ex q
      obtain ⟨v, hv, q⟩ := evK_ex q
      split at q
      · obtain ⟨rfl, q⟩ := q
        exact ⟨_, .pure (does_uString0 rfl hu hv), q⟩
      · obtain ⟨ti, ht, q⟩ := tyK_ex q
        split at q
        · rename_i hsh
          obtain ⟨rfl, cs, sz, wr, sp, ty, hb, rfl, rfl, l, q1, q2, q3, q4, q5, q⟩ := q
          exact ⟨_, ⟨does_uString hC.ty ht hsh rfl hu hv q1 (List.length_pos_iff.mp q2) q3 q4 q5, (fun p hp => by rw [List.mem_singleton.mp hp]; exact hb), (fun p hp => by rw [List.mem_singleton.mp hp]; exact ⟨_, List.mem_singleton.mpr rfl⟩)⟩, q⟩
        · exact q.elim
      · exact q.elim
    · obtain ⟨u, hu, q⟩ := evK_ex q
      obtain ⟨ti, ht, q⟩ := tyK_ex q
      split at q
      · rename_i hsh _
        rcases q with ⟨h0, q9⟩ | ⟨h0, q⟩
        · rw [h0] at hu
          exact ⟨_, .pure (does_clearN hC.ty ht hsh rfl hu), q9⟩
        · split at q
          · obtain ⟨cs, sz, wr, sp, ty, hb, rfl, rfl, q1, q⟩ := q
            exact ⟨_, ⟨does_clear hC.ty ht hsh rfl hu h0 q1, (fun p hp => by rw [List.mem_singleton.mp hp]; exact hb), (fun p hp => by rw [List.mem_singleton.mp hp]; exact ⟨_, List.mem_singleton.mpr rfl⟩)⟩, q⟩
          · exact q.elim
      · exact q.elim
    · split at q
      · rename_i hF
        split at q
        · rename_i hu
          exact ext_sound hC rfl hF hu q
        · exact q.elim
      · exact q.elim
    · exact q.elim
end
end Go.Den
namespace Go.Den
open Go Go.RowKit

inductive AX where
  | normal
  | exit (id : Nat)
  | ret
  | pan (v : Value)
inductive XRel (ρ : Ren) : AX → Exit → Prop
  | normal : XRel ρ .normal .normal
  | exit (id : Nat) : XRel ρ (.exit id) (.exit id)
  | ret : XRel ρ .ret .ret
  | pan (v v' : Value) : VRel ρ v v' → XRel ρ (.pan v) (.panic [{ v := v', recovered := false }])
theorem XRel.mono {ρ ρ' : Ren} (s : Sub ρ ρ') {x : AX} {y : Exit} (h : XRel ρ x y) : XRel ρ' x y := by
  cases h with
  | normal => exact .normal
  | exit id => exact .exit id
  | ret => exact .ret
  | pan v v' hv => exact .pan v v' (hv.mono s)
/-- The sketch fits the machine at a point of a function's body. -/
structure At (C : Ctx) (N : Nat) (ρ : Ren) (e : Env) (h : AHeap) (a : Act) (w : World) : Prop where
  rel : Rel C.W0 ρ h w
  env : ERel ρ e a.tmps
  size : a.tmps.size = N
  defers : a.defers = []
abbrev QA := AX → Env → AHeap → Prop
/-- What is to hold behind a piece of code, of the machine. -/
def Post (C : Ctx) (N M : Nat) (ρ0 : Ren) (w0 : World) (Q : QA) : Exit → Act → World → Prop := fun x a w =>
  ∃ ρ e h y, ExtN M ρ0 w0 ρ w ∧ At C N ρ e h a w ∧ XRel ρ y x ∧ Q y e h
def SemC (C : Ctx) (N M : Nat) (c : Code) (Q : QA) (e : Env) (h : AHeap) : Prop :=
  ∀ (ρ : Ren) (w : World) (a : Act), At C N ρ e h a w → c.wp C.P (Post C N M ρ w Q) a w
theorem Post.ext {C : Ctx} {N M : Nat} {ρ ρ0 : Ren} {w w0 : World} {Q : QA} (hE : ExtN M ρ0 w0 ρ w) {x : Exit} {a : Act} {w' : World} (h : Post C N M ρ w Q x a w') : Post C N M ρ0 w0 Q x a w' :=
  let ⟨ρ', e, hh, y, p, q⟩ := h
  ⟨ρ', e, hh, y, hE.trans p, q⟩
theorem Post.mono {C : Ctx} {N M : Nat} {ρ : Ren} {w : World} {Q Q' : QA} (hq : ∀ x e h, Q x e h → Q' x e h) {x : Exit} {a : Act} {w' : World} (h : Post C N M ρ w Q x a w') : Post C N M ρ w Q' x a w' :=
  let ⟨ρ', e, hh, y, p, q, r, s⟩ := h
  ⟨ρ', e, hh, y, p, q, r, hq _ _ _ s⟩

abbrev KV := Value → AHeap → Prop
/-- What is to hold behind a call, of the machine. -/
def CPost (C : Ctx) (ρ : Ren) (w : World) (K E : KV) : Ending → World → Prop
  | .returned v', w' => ∃ ρ' v h', Ext ρ w ρ' w' ∧ Rel C.W0 ρ' h' w' ∧ VRel ρ' v v' ∧ K v h'
  | .panicked ch, w' => ∃ ρ' v v' h', ch = [{ v := v', recovered := false }] ∧ Ext ρ w ρ' w' ∧ Rel C.W0 ρ' h' w' ∧ VRel ρ' v v' ∧ E v h'
  | .outgrown, _ => False
structure Enters (P : Program) (f : FuncId) : Prop where
  ex : ∃ fn : Func, P.funcs[f]? = some fn ∧ (fn.name == "runtime.NumGoroutine") = false ∧ fn.body.isNone = false
/-- A call of the function f. -/
structure CallP (C : Ctx) (f : FuncId) (args : List Value) (h : AHeap) (K E : KV) : Prop where
  enters : Enters C.P f
  calls : ∀ (ρ : Ren) (w : World) (args' : List Value), Rel C.W0 ρ h w → LRel ρ args args' → Calls C.P f args'.toArray w (CPost C ρ w K E)
theorem CPost.mono {C : Ctx} {ρ : Ren} {w : World} {K E K' E' : KV} (hk : ∀ v h, K v h → K' v h) (he : ∀ v h, E v h → E' v h) {x : Ending} {w' : World} (h : CPost C ρ w K E x w') : CPost C ρ w K' E' x w' := by
  cases x with
  | returned v' => obtain ⟨ρ', v, h', p, q, r, s⟩ := h; exact ⟨ρ', v, h', p, q, r, hk _ _ s⟩
  | panicked ch => obtain ⟨ρ', v, v', h', o, p, q, r, s⟩ := h; exact ⟨ρ', v, v', h', o, p, q, r, he _ _ s⟩
  | outgrown => exact h
theorem CallP.mono {C : Ctx} {f : FuncId} {args : List Value} {h : AHeap} {K E K' E' : KV} (c : CallP C f args h K E) (hk : ∀ v h, K v h → K' v h) (he : ∀ v h, E v h → E' v h) : CallP C f args h K' E' :=
  ⟨c.enters, fun ρ w args' hR hL => (c.calls ρ w args' hR hL).mono fun _ _ q => q.mono hk he⟩
theorem enter_run {P : Program} {f : FuncId} (h : Enters P f) (args : Array Value) (w : World) : (callFunc f args).run P w = .ok (.enter f args) w := by
  obtain ⟨fn, h1, h2, h3⟩ := h.ex
  simp only [callFunc, Sem.run_bind, run_program, Result.andThen_ok, h1, h2, h3, Bool.false_eq_true, if_false, Sem.run_pure]

def undefV : Value := .tuple #[]
def Env.putR (e : Env) (d : Option Nat) (v : Option Value) : Env := match d with
  | some d => (d, v) :: e
  | none => e
/-- A call of a function value. -/
def callV (C : Ctx) (fv : Value) (us : List Value) (h : AHeap) (K E : KV) : Prop :=
  match fv with
  | .func (.func g) first cap => CallP C g (first.toList ++ us ++ cap.toList) h K E
  | _ => False
def applyE (h : AHeap) (f : Eff) : AHeap := match f.al with
  | [] => hset h f.wr
  | b :: r => hset h f.wr ++ (b :: r)
theorem applyE_eq (h : AHeap) (f : Eff) : applyE h f = hset h f.wr ++ f.al := by
  unfold applyE; cases f.al <;> simp
/-- Is it a call of a function with a body? -/
def isCall (C : Ctx) (c : Call) : Bool := match c.callee with
  | .value (.func f) => match C.X f with
    | some _ => false
    | none => true
  | .value _ => true
  | _ => false
def stepK (C : Ctx) (o : Oper) (e : Env) (h : AHeap) (K : Option Value → AHeap → Prop) (E : KV) : Prop :=
  match o.op with
  | .call c => bif isCall C c then (match c.callee with
      | .value f => evK e f fun fv => match evA e c.args.toList with
        | some us => callV C fv us h (fun v h' => K (some v) h') E
        | none => False
      | _ => False)
    else callK C c e h fun f => K f.v (applyE h f)
  | .panic x => evK e x fun v => match v with
    | .iface _ _ => E v h
    | _ => False
  | _ => opK C o e h fun f => K f.v (applyE h f)
def guardK (ops : List Oper) (g : Option (Nat × Bool)) (e : Env) (y n : Env → Prop) : Prop :=
  match g with
  | none => y e
  | some (j, want) => match ops[j]? with
    | some oj => match oj.dst with
      | some d => match e.get d with
        | some (.bool b) => brP b (match want with | true => y ((d, some (.bool true)) :: e) | false => n ((d, some (.bool true)) :: e)) (match want with | true => n ((d, some (.bool false)) :: e) | false => y ((d, some (.bool false)) :: e))
        | some (.tuple _) => n e
        | _ => False
      | none => False
    | none => False
def dstOk (N : Nat) : Option Nat → Bool
  | none => true
  | some d => Nat.blt d N
/-- The operations of a region, one behind the other. -/
noncomputable def wpL (C : Ctx) (N : Nat) (ops : List Oper) (K : Env → AHeap → Prop) (E : KV) (l : List Oper) : Env → AHeap → Prop :=
  List.rec (motive := fun _ => Env → AHeap → Prop) (fun e h => K e h) (fun o _ ih e h => bif dstOk N o.dst then
      guardK ops o.guard e (fun e => stepK C o e h (fun v h' => ih (e.putR o.dst v) h') E) (fun e => ih (e.putR o.dst (some undefV)) h)
    else False) l
theorem wpL_nil {C : Ctx} {N : Nat} {ops : List Oper} {K : Env → AHeap → Prop} {E : KV} {e : Env} {h : AHeap} : wpL C N ops K E [] e h = K e h := rfl
theorem wpL_cons {C : Ctx} {N : Nat} {ops : List Oper} {K : Env → AHeap → Prop} {E : KV} {o : Oper} {r : List Oper} {e : Env} {h : AHeap} : wpL C N ops K E (o :: r) e h = (bif dstOk N o.dst then
      guardK ops o.guard e (fun e => stepK C o e h (fun v h' => wpL C N ops K E r (e.putR o.dst v) h') E) (fun e => wpL C N ops K E r (e.putR o.dst (some undefV)) h)
    else False) := rfl

section
variable {C : Ctx} {N : Nat}
theorem hset_append (wr : List (Nat × ABlk)) : ∀ (h l : AHeap), (∀ p ∈ wr, p.1 < h.length) → hset (h ++ l) wr = hset h wr ++ l := by
  induction wr with
  | nil => intro h l _; rfl
  | cons p r ih =>
    intro h l hp
    obtain ⟨i, b⟩ := p
    have hi : i < h.length := hp (i, b) (List.mem_cons_self ..)
    simp only [hset]
    rw [List.set_append_left _ _ hi]
    exact ih _ _ (fun q hq => by rw [List.length_set]; exact hp q (List.mem_cons_of_mem _ hq))
theorem hset_length (wr : List (Nat × ABlk)) : ∀ h : AHeap, (hset h wr).length = h.length := by
  induction wr with
  | nil => intro h; rfl
  | cons p r ih => intro h; obtain ⟨i, b⟩ := p; simp only [hset]; rw [ih, List.length_set]
theorem alAt_mem : ∀ {l : List ABlk} {n : Nat} {p : Nat × ABlk}, p ∈ alAt n l → n ≤ p.1 ∧ p.1 < n + l.length
  | [], n, p, h => by cases h
  | b :: r, n, p, h => by
    rcases List.mem_cons.mp h with rfl | h
    · simp
    · have := alAt_mem h
      simp only [List.length_cons]; omega
theorem hset_alAt : ∀ (l : List ABlk) (h : AHeap), hset (h ++ List.replicate l.length .free) (alAt h.length l) = h ++ l
  | [], h => by simp [alAt, hset]
  | b :: r, h => by
    simp only [alAt, hset, List.length_cons, List.replicate_succ]
    have e : (h ++ (ABlk.free :: List.replicate r.length .free)).set h.length b = (h ++ [b]) ++ List.replicate r.length .free := by
      rw [List.set_append_right _ _ (Nat.le_refl _), Nat.sub_self]; simp
    rw [e]
    have := hset_alAt r (h ++ [b])
    rw [List.length_append, List.length_singleton] at this
    rw [this]; simp
/-- An operation, done. -/
theorem Does.wp {o : Oper} {e : Env} {h : AHeap} {f : Eff} (D : Does C.P C.W0 o e h f) {ρ : Ren} {w : World} {a : Act} (hA : At C N ρ e h a w) {next : Act → World → Prop} {Q : Exit → Act → World → Prop}
    (hd : dstOk N o.dst = true) (hn : ∀ (ρ' : Ren) (a' : Act) (w' : World), Ext ρ w ρ' w' → At C N ρ' (e.putR o.dst f.v) (applyE h f) a' w' → next a' w') : o.wp C.P a w next Q := by
  have hwr : ∀ p ∈ f.wr, p.1 < h.length := fun p hp => by
    obtain ⟨b, hb⟩ := D.wr p hp
    exact (List.getElem?_eq_some_iff.mp (D.rd _ hb)).1
  have fin : ∀ (v' : Value) (ρ' : Ren) (w' : World), (∀ u, f.v = some u → VRel ρ' u v') → Ext ρ w ρ' w' → Rel C.W0 ρ' (applyE h f) w' → next (a.put o.dst v') w' := by
    intro v' ρ' w' hv hE hR
    refine hn ρ' _ w' hE ⟨hR, ?_, ?_, ?_⟩
    · cases hdst : o.dst with
      | none => rw [show a.put none v' = a from rfl]; exact hA.env.mono hE.sub
      | some d =>
        have hdN : d < a.tmps.size := by
          rw [hA.size]; rw [hdst] at hd
          exact Nat.le_of_ble_eq_true (show Nat.ble (d + 1) N = true from hd)
        show ERel ρ' ((d, f.v) :: e) (a.tmps.setIfInBounds d v')
        cases hfv : f.v with
        | none => exact (hA.env.mono hE.sub).drop v'
        | some u => exact (hA.env.mono hE.sub).put hdN (hv u hfv)
    · cases o.dst with
      | none => exact hA.size
      | some d => show (a.tmps.setIfInBounds d v').size = N; rw [Array.size_setIfInBounds]; exact hA.size
    · cases o.dst <;> exact hA.defers
  have hR0 := rel_free hA.rel f.al.length
  have hrd : ∀ p ∈ f.rd, (h ++ List.replicate f.al.length .free)[p.1]? = some p.2 := fun p hp => by
    have := D.rd p hp
    rw [List.getElem?_append_left (List.getElem?_eq_some_iff.mp this).1]; exact this
  refine D.sem ρ _ w a hR0 (hA.env.opd o) hrd (fun p hp => ?_) next Q fun v' ρ' w' hv hE hR => fin v' ρ' w' hv hE ?_
  · obtain ⟨h1, h2⟩ := alAt_mem hp
    rw [List.getElem?_append_right h1, List.getElem?_replicate, if_pos (by omega)]
  · rw [applyE_eq, ← hset_alAt]
    rw [hset_append _ _ _ hwr, ← hset_length f.wr h] at hR
    exact hR
end
end Go.Den
namespace Go.Den
open Go Go.RowKit
section
variable {C : Ctx} (hC : C.Ok) {N : Nat}
theorem func_inv {ρ : Ren} {f : Fn} {a b : Array Value} {v' : Value} (hf : notY f = true) (h : VRel ρ (.func f a b) v') : ∃ a' b', v' = .func f a' b' ∧ LRel ρ a.toList a'.toList ∧ LRel ρ b.toList b'.toList := by
  cases h with
  | func _ _ a' _ b' _ h1 h2 h3 h4 => exact ⟨a', b', rfl, ⟨by simpa using h1, fun j u u' p q => h2 j u u' (by simpa using p) (by simpa using q)⟩, ⟨by simpa using h3, fun j u u' p q => h4 j u u' (by simpa using p) (by simpa using q)⟩⟩
  | lst _ _ _ _ _ _ _ _ _ _ => cases hf
  | lst0 _ _ _ => cases hf
  | lptr _ _ _ _ _ _ _ _ => cases hf
theorem At.put {ρ : Ren} {e : Env} {h : AHeap} {a : Act} {w : World} (hA : At C N ρ e h a w) {ρ' : Ren} {w' : World} {h' : AHeap} (hE : Ext ρ w ρ' w') (hR : Rel C.W0 ρ' h' w') {d : Option Nat} (hd : dstOk N d = true) {v v' : Value} (hv : VRel ρ' v v') :
    At C N ρ' (e.putR d (some v)) h' (a.put d v') w' := by
  refine ⟨hR, ?_, ?_, ?_⟩
  · cases d with
    | none => exact hA.env.mono hE.sub
    | some d =>
      have hdN : d < a.tmps.size := by rw [hA.size]; exact Nat.le_of_ble_eq_true (show Nat.ble (d + 1) N = true from hd)
      exact (hA.env.mono hE.sub).put hdN hv
  · cases d with
    | none => exact hA.size
    | some d => show (a.tmps.setIfInBounds d v').size = N; rw [Array.size_setIfInBounds]; exact hA.size
  · cases d <;> exact hA.defers
/-- A call of a function with a body, in the middle of a region. -/
theorem call_wp {o : Oper} {c : Call} {f : Operand} (ho : o.op = .call c) (hc : c.callee = .value f) {e : Env} {h : AHeap} {fv : Value} {us : List Value} (hf : evO e f = some fv) (hu : evA e c.args.toList = some us) {K : Option Value → AHeap → Prop} {E : KV}
    (q : callV C fv us h (fun v h' => K (some v) h') E) {ρ : Ren} {w : World} {a : Act} (hA : At C N ρ e h a w) (hd : dstOk N o.dst = true) {next : Act → World → Prop} {Q : Exit → Act → World → Prop}
    (hn : ∀ (v : Value) (h' : AHeap) (ρ' : Ren) (a' : Act) (w' : World), K (some v) h' → Ext ρ w ρ' w' → At C N ρ' (e.putR o.dst (some v)) h' a' w' → next a' w')
    (hp : ∀ (v v' : Value) (h' : AHeap) (ρ' : Ren) (w' : World), E v h' → Ext ρ w ρ' w' → At C N ρ' e h' a w' → VRel ρ' v v' → Q (.panic [{ v := v', recovered := false }]) a w') : o.wp C.P a w next Q := by
  unfold callV at q
  split at q
  · rename_i g first cap
    have hfr := evO_rel hA.env hf
    obtain ⟨first', cap', e1, L1, L2⟩ := func_inv rfl hfr
    have hL := evA_rel (ρ := ρ) (a := a) c.args.toList us (fun x _ v hv => evO_rel hA.env hv) hu
    have hex : (execOp a.eval o).run C.P w = .ok (.enter g ((first'.toList ++ c.args.toList.map a.eval ++ cap'.toList).toArray)) w := by
      have hargs : first' ++ c.args.map a.eval ++ cap' = (first'.toList ++ c.args.toList.map a.eval ++ cap'.toList).toArray := by
        apply Array.ext'; simp
      simp only [execOp, ho, resolve, hc, e1, Deferred.ofValue, Sem.run_bind, Sem.run_pure, Result.andThen_ok, invoke, hargs]
      exact enter_run q.enters _ w
    unfold Oper.wp
    rw [hex, Oper.upon_enter]
    refine (q.calls ρ w _ hA.rel ((L1.app hL).app L2)).mono fun en w' hp' => ?_
    cases en with
    | returned v' =>
      obtain ⟨ρ', v, h', p1, p2, p3, p4⟩ := hp'
      exact hn v h' ρ' _ w' p4 p1 (hA.put p1 p2 hd p3)
    | panicked ch =>
      obtain ⟨ρ', v, v', h', rfl, p1, p2, p3, p4⟩ := hp'
      exact hp v v' h' ρ' w' p4 p1 ⟨p2, hA.env.mono p1.sub, hA.size, hA.defers⟩ p3
    | outgrown => exact hp'.elim
  · exact q.elim
include hC
theorem step_wp {o : Oper} {e : Env} {h : AHeap} {K : Option Value → AHeap → Prop} {E : KV} (q : stepK C o e h K E) {ρ : Ren} {w : World} {a : Act} (hA : At C N ρ e h a w) (hd : dstOk N o.dst = true) {next : Act → World → Prop} {Q : Exit → Act → World → Prop}
    (hn : ∀ (v : Option Value) (h' : AHeap) (ρ' : Ren) (a' : Act) (w' : World), K v h' → Ext ρ w ρ' w' → At C N ρ' (e.putR o.dst v) h' a' w' → next a' w')
    (hp : ∀ (v v' : Value) (h' : AHeap) (ρ' : Ren) (w' : World), E v h' → Ext ρ w ρ' w' → At C N ρ' e h' a w' → VRel ρ' v v' → Q (.panic [{ v := v', recovered := false }]) a w') : o.wp C.P a w next Q := by
  have plain : ∀ {K' : Eff → Prop}, opK C o e h K' → (∀ f, K' f → K f.v (applyE h f)) → o.wp C.P a w next Q := by
    intro K' q hk
    obtain ⟨f, D, hf⟩ := opK_sound hC q
    exact D.wp hA hd fun ρ' a' w' hE hA' => hn _ _ ρ' a' w' (hk f hf) hE hA'
  unfold stepK at q
  split at q
  · rename_i c ho
    cases hic : isCall C c with
    | false =>
      rw [hic] at q
      exact plain (K' := fun f => K f.v (applyE h f)) (by unfold opK; rw [ho]; exact q) fun _ hk => hk
    | true =>
      rw [hic] at q
      simp only [cond_true] at q
      split at q
      · rename_i f hcf
        obtain ⟨fv, hf, q⟩ := evK_ex q
        split at q
        · rename_i us hu
          exact call_wp ho hcf hf hu q hA hd (fun v => hn (some v)) hp
        · exact q.elim
      · exact q.elim
  · rename_i x ho
    obtain ⟨v, hv, q⟩ := evK_ex q
    split at q
    · rename_i t u
      have hr := evO_rel hA.env hv
      obtain ⟨v', hv'⟩ : ∃ v', a.eval x = v' := ⟨_, rfl⟩
      rw [hv'] at hr
      have hex : (execOp a.eval o).run C.P w = .halt (.panic v') w := by
        cases hr with
        | iface _ _ u' hu => simp [execOp, ho, hv', Instr.panic]
      unfold Oper.wp
      rw [hex, Oper.upon_panic]
      exact hp _ v' h ρ w q (Ext.refl ρ w) hA hr
    · exact q.elim
  · exact plain q fun _ hk => hk
theorem guard_wp {ops : List Oper} {o : Oper} {e : Env} {h : AHeap} {y n : Env → Prop} {ρ : Ren} {w : World} {a : Act} (q : guardK ops o.guard e y n) (hA : At C N ρ e h a w) :
    (∃ e', y e' ∧ At C N ρ e' h a w ∧ Region.wanted o (yielded ops.toArray a.tmps) = true) ∨ (∃ e', n e' ∧ At C N ρ e' h a w ∧ Region.wanted o (yielded ops.toArray a.tmps) = false) := by
  unfold guardK at q
  split at q
  · rename_i hg
    exact .inl ⟨e, q, hA, by simp [Region.wanted, hg]⟩
  · rename_i j want hg
    split at q
    · rename_i oj hj
      split at q
      · rename_i d hdst
        have hy : yielded ops.toArray a.tmps j = match a.tmps[d]? with | some (.bool b) => some b | _ => none := by
          have hj' : ops.toArray[j]? = some oj := by simpa using hj
          simp [yielded, hj', hdst]
          rfl
        split at q
        · rename_i b hget
          obtain ⟨v', p1, p2⟩ := hA.env d _ hget
          have hv := (AF.bool b).eq p2
          subst hv
          rw [p1] at hy
          have hA' : At C N ρ ((d, some (.bool b)) :: e) h a w := ⟨hA.rel, fun t u ht => by
            rw [Env.get_cons] at ht
            by_cases hdt : d = t
            · subst hdt; rw [if_pos rfl] at ht; cases ht; exact ⟨_, p1, p2⟩
            · rw [if_neg hdt] at ht; exact hA.env t u ht, hA.size, hA.defers⟩
          rcases brP.cases q with ⟨rfl, q⟩ | ⟨rfl, q⟩ <;> cases want
          · exact .inr ⟨_, q, hA', by simp [Region.wanted, hg, hy]⟩
          · exact .inl ⟨_, q, hA', by simp [Region.wanted, hg, hy]⟩
          · exact .inl ⟨_, q, hA', by simp [Region.wanted, hg, hy]⟩
          · exact .inr ⟨_, q, hA', by simp [Region.wanted, hg, hy]⟩
        · rename_i vs hget
          obtain ⟨v', p1, p2⟩ := hA.env d _ hget
          obtain ⟨ds, rfl, _⟩ := tuple_inv p2
          rw [p1] at hy
          exact .inr ⟨_, q, hA, by simp [Region.wanted, hg, hy]⟩
        · exact q.elim
      · exact q.elim
    · exact q.elim
theorem wpL_sound {ops : List Oper} {K : Env → AHeap → Prop} {E : KV} {ρ0 : Ren} {w0 : World} {Q : Exit → Act → World → Prop}
    (hn : ∀ (e : Env) (h : AHeap) (ρ : Ren) (a : Act) (w : World), K e h → Ext ρ0 w0 ρ w → At C N ρ e h a w → Q .normal a w)
    (hp : ∀ (v v' : Value) (h : AHeap) (ρ : Ren) (e : Env) (a : Act) (w : World), E v h → Ext ρ0 w0 ρ w → At C N ρ e h a w → VRel ρ v v' → Q (.panic [{ v := v', recovered := false }]) a w) :
    ∀ (r : List Oper) (e : Env) (h : AHeap) (ρ : Ren) (a : Act) (w : World), wpL C N ops K E r e h → Ext ρ0 w0 ρ w → At C N ρ e h a w → wpList C.P ops.toArray Q r a w := by
  intro r
  induction r with
  | nil => intro e h ρ a w q hE hA; exact hn e h ρ a w q hE hA
  | cons o r ih =>
    intro e h ρ a w q hE hA
    rw [wpL_cons] at q
    cases hd : dstOk N o.dst with
    | false => rw [hd] at q; exact q.elim
    | true =>
      rw [hd] at q
      simp only [cond_true] at q
      unfold wpList
      rcases guard_wp hC q hA with ⟨e', q, hA', hw⟩ | ⟨e', q, hA', hw⟩
      · rw [if_pos hw]
        refine .inl (step_wp hC q hA' hd (fun v h' ρ' a' w' hk hE' hA'' => ih _ _ ρ' a' w' hk (hE.trans hE') hA'') ?_)
        intro v v' h' ρ' w' hk hE' hA'' hv
        exact hp v v' h' ρ' e' a w' hk (hE.trans hE') hA'' hv
      · rw [hw]
        simp only [Bool.false_eq_true, if_false]
        refine ih _ _ ρ _ w q hE ?_
        exact hA'.put (Ext.refl ρ w) hA'.rel hd ((AF.tuple (by intro v hv; simp at hv)).rel ρ)
end
end Go.Den
namespace Go.Den
open Go Go.RowKit
/-- The same machine, told anew (the first M names stay). -/
def RT (W0 : World) (M : Nat) (us : List Value) (h : AHeap) (us' : List Value) (h' : AHeap) : Prop :=
  ∀ (ρ : Ren) (w : World) (ds : List Value), Rel W0 ρ h w → LRel ρ us ds → ∃ ρ', Rel W0 ρ' h' w ∧ LRel ρ' us' ds ∧ ExtN M ρ w ρ' w
theorem RT.refl (W0 : World) (M : Nat) (us : List Value) (h : AHeap) : RT W0 M us h us h := fun ρ w ds hR hL => ⟨ρ, hR, hL, ExtN.refl M ρ w⟩
theorem RT.of_eq {W0 : World} {M : Nat} {us us' : List Value} {h h' : AHeap} (e1 : us = us') (e2 : h = h') : RT W0 M us h us' h' := by subst e1; subst e2; exact RT.refl _ _ _ _
theorem RT.trans {W0 : World} {M : Nat} {us us1 us2 : List Value} {h h1 h2 : AHeap} (p : RT W0 M us h us1 h1) (q : RT W0 M us1 h1 us2 h2) : RT W0 M us h us2 h2 := fun ρ w ds hR hL =>
  let ⟨ρ', a, b, c⟩ := p ρ w ds hR hL
  let ⟨ρ'', a', b', c'⟩ := q ρ' w ds a b
  ⟨ρ'', a', b', c.trans c'⟩
/-- Some of what is known of the temporaries. -/
abbrev TEnv := List (Nat × Value)
def mkE : TEnv → Env
  | [] => []
  | (t, v) :: r => (t, some v) :: mkE r
def Env.gets (e : Env) : List Nat → Option (List Value)
  | [] => some []
  | t :: r => match e.get t with
    | some v => match Env.gets e r with
      | some l => some (v :: l)
      | none => none
    | none => none
theorem gets_rel {ρ : Ren} {e : Env} {tmps : Array Value} (hE : ERel ρ e tmps) : ∀ {ts : List Nat} {us : List Value}, e.gets ts = some us → ∃ ds, LRel ρ us ds ∧ ∀ (j t : Nat) (d : Value), ts[j]? = some t → ds[j]? = some d → tmps[t]? = some d
  | [], us, h => by cases h; exact ⟨[], .nil ρ, fun j t d p => by cases p⟩
  | t :: r, us, h => by
    unfold Env.gets at h
    split at h
    · rename_i v hv
      split at h
      · rename_i l hl
        cases h
        obtain ⟨v', p, q⟩ := hE t v hv
        obtain ⟨ds, h1, h2⟩ := gets_rel hE hl
        refine ⟨v' :: ds, .cons q h1, fun j u d a b => ?_⟩
        cases j with
        | zero => cases a; cases b; exact p
        | succ j => exact h2 j u d (by simpa using a) (by simpa using b)
      · cases h
    · cases h
theorem mkE_of {ρ : Ren} {tmps : Array Value} : ∀ {l : TEnv} {ds : List Value}, LRel ρ (l.map (·.2)) ds → (∀ (j t : Nat) (d : Value), (l.map (·.1))[j]? = some t → ds[j]? = some d → tmps[t]? = some d) → ERel ρ (mkE l) tmps
  | [], ds, _, _ => fun t v h => by cases h
  | (u, x) :: r, [], h, _ => by cases h.1
  | (u, x) :: r, d :: ds, h, k => by
    intro t v ht
    rw [mkE, Env.get_cons] at ht
    by_cases hut : u = t
    · subst hut
      rw [if_pos rfl] at ht; cases ht
      exact ⟨d, k 0 u d rfl rfl, h.2 0 _ d rfl rfl⟩
    · rw [if_neg hut] at ht
      exact mkE_of (l := r) (ds := ds) ⟨by simpa using h.1, fun j a b p q => h.2 (j + 1) a b (by simpa using p) (by simpa using q)⟩ (fun j a b p q => k (j + 1) a b (by simpa using p) (by simpa using q)) t v ht
/-- What is known, told anew. -/
theorem At.told {C : Ctx} {N M : Nat} {ρ : Ren} {e : Env} {h : AHeap} {a : Act} {w : World} (hA : At C N ρ e h a w) {l : TEnv} {us : List Value} {h' : AHeap} (hg : e.gets (l.map (·.1)) = some us) (hT : RT C.W0 M us h (l.map (·.2)) h') :
    ∃ ρ', At C N ρ' (mkE l) h' a w ∧ ExtN M ρ w ρ' w := by
  obtain ⟨ds, h1, h2⟩ := gets_rel hA.env hg
  obtain ⟨ρ', g1, g2, g3⟩ := hT ρ w ds hA.rel h1
  exact ⟨ρ', ⟨g1, mkE_of g2 h2, hA.size, hA.defers⟩, g3⟩
end Go.Den
namespace Go.Den
open Go Go.RowKit

def thenA (n : Env → AHeap → Prop) (Q : QA) : QA := fun x e h => match x with
  | .normal => n e h
  | .exit id => Q (.exit id) e h
  | .ret => Q .ret e h
  | .pan v => Q (.pan v) e h
def blockA (id : Nat) (Q : QA) : QA := fun x e h => match x with
  | .normal => Q .normal e h
  | .exit i => match Nat.beq i id with
    | true => Q .normal e h
    | false => Q (.exit i) e h
  | .ret => Q .ret e h
  | .pan v => Q (.pan v) e h
/-- Behind a piece of code: what is known may be told anew, or in part. -/
inductive Here (C : Ctx) (M : Nat) (P : Env → AHeap → Prop) (e : Env) (h : AHeap) : Prop
  | intro (e' : Env) : (∀ t v, e'.get t = some v → e.get t = some v) → P e' h → Here C M P e h
  | told (l : TEnv) (us : List Value) (h' : AHeap) : e.gets (l.map (·.1)) = some us → RT C.W0 M us h (l.map (·.2)) h' → P (mkE l) h' → Here C M P e h
theorem Here.mk {C : Ctx} {M : Nat} {P : Env → AHeap → Prop} {e : Env} {h : AHeap} (q : P e h) : Here C M P e h := .intro e (fun _ _ z => z) q
theorem Here.norm {C : Ctx} {M : Nat} {P : Env → AHeap → Prop} {e e' : Env} {h h' : AHeap} (he : e = e') (hh : h = h') (q : P e' h') : Here C M P e h := by subst he; subst hh; exact .mk q
/-- What is to be shown of a piece of code. -/
noncomputable def wpC (C : Ctx) (N M : Nat) (c : Code) : QA → Env → AHeap → Prop :=
  Code.rec (motive := fun _ => QA → Env → AHeap → Prop)
    (fun Q e h => Q .normal e h)
    (fun id ops draw Q e h => match draw with
      | false => wpL C N ops.toList (fun e h => Q .normal e h) (fun v h => Q (.pan v) [] h) ops.toList e h
      | true => SemC C N M (.region id ops true) Q e h)
    (fun _ _ iha ihb Q e h => iha (thenA (fun e h => Here C M (ihb Q) e h) Q) e h)
    (fun c _ _ iha ihb Q e h => evK e c fun v => match v with
      | .bool t => brP t (iha Q e h) (ihb Q e h)
      | _ => False)
    (fun id _ ih Q e h => ih (blockA id Q) e h)
    (fun c _ Q e h => SemC C N M (.loop c) Q e h)
    (fun _ _ _ _ _ _ _ _ _ => False)
    (fun id Q e h => Q (.exit id) e h)
    (fun _ ih Q e h => ih Q e h)
    (fun _ Q e h => Q .normal e h)
    (fun _ _ _ _ => False)
    (fun Q e h => Q .ret e h)
    (fun _ _ _ _ => False) c
section
variable {C : Ctx} (hC : C.Ok) {N M : Nat}
include hC
theorem wpC_sound : ∀ (c : Code) (Q : QA) (e : Env) (h : AHeap), wpC C N M c Q e h → SemC C N M c Q e h := by
  intro c
  induction c with
  | skip => intro Q e h q ρ w a hA; exact wp_skip ⟨ρ, e, h, .normal, ExtN.refl M ρ w, hA, .normal, q⟩
  | label l => intro Q e h q ρ w a hA; exact wp_label ⟨ρ, e, h, .normal, ExtN.refl M ρ w, hA, .normal, q⟩
  | seq x y ihx ihy =>
    intro Q e h q ρ w a hA
    refine wp_seq (wp_mono (ihx _ e h q ρ w a hA) ?_)
    rintro x a' w' ⟨ρ', e', h', ax, hE, hA', hX, q'⟩
    cases hX with
    | normal =>
      cases q' with
      | intro e2 hs q' => exact wp_mono (ihy Q e2 h' q' ρ' w' a' ⟨hA'.rel, fun t v k => hA'.env t v (hs t v k), hA'.size, hA'.defers⟩) fun _ _ _ z => z.ext hE
      | told l us h2 hg hT q' =>
        obtain ⟨ρ2, hA2, hE2⟩ := hA'.told hg hT
        exact wp_mono (ihy Q _ h2 q' ρ2 w' a' hA2) fun _ _ _ z => z.ext (hE.trans hE2)
    | exit id => exact ⟨ρ', e', h', _, hE, hA', .exit id, q'⟩
    | ret => exact ⟨ρ', e', h', _, hE, hA', .ret, q'⟩
    | pan v v' hv => exact ⟨ρ', e', h', _, hE, hA', .pan v v' hv, q'⟩
  | cond c x y ihx ihy =>
    intro Q e h q ρ w a hA
    obtain ⟨v, hv, q⟩ := evK_ex q
    split at q
    · rename_i t
      have hb := (AF.bool t).eq (evO_rel hA.env hv)
      refine wp_cond hb ?_
      rcases brP.cases q with ⟨rfl, q⟩ | ⟨rfl, q⟩
      · exact ihx Q e h q ρ w a hA
      · exact ihy Q e h q ρ w a hA
    · exact q.elim
  | block id c ih =>
    intro Q e h q ρ w a hA
    refine wp_block (wp_mono (ih _ e h q ρ w a hA) ?_)
    rintro x a' w' ⟨ρ', e', h', ax, hE, hA', hX, q'⟩
    cases hX with
    | normal => exact ⟨ρ', e', h', .normal, hE, hA', .normal, q'⟩
    | exit i =>
      show (if i = id then _ else _)
      simp only [blockA] at q'
      cases hb : Nat.beq i id with
      | true =>
        rw [hb] at q'
        rw [if_pos (Nat.eq_of_beq_eq_true hb)]
        exact ⟨ρ', e', h', .normal, hE, hA', .normal, q'⟩
      | false =>
        rw [hb] at q'
        rw [if_neg (Nat.ne_of_beq_eq_false hb)]
        exact ⟨ρ', e', h', _, hE, hA', .exit i, q'⟩
    | ret => exact ⟨ρ', e', h', _, hE, hA', .ret, q'⟩
    | pan v v' hv => exact ⟨ρ', e', h', _, hE, hA', .pan v v' hv, q'⟩
  | loop c ih => intro Q e h q; exact q
  | scope c ih =>
    intro Q e h q ρ w a hA
    refine wp_scope_straight (wp_mono (ih Q e h q ρ w a hA) ?_)
    rintro x a' w' ⟨ρ', e', h', ax, hE, hA', hX, q'⟩
    cases hX with
    | normal => exact ⟨ρ', e', h', .normal, hE, hA', .normal, q'⟩
    | exit i => exact ⟨ρ', e', h', _, hE, hA', .exit i, q'⟩
    | ret => exact ⟨ρ', e', h', _, hE, hA', .ret, q'⟩
    | pan v v' hv => exact ⟨ρ', e', h', _, hE, hA', .pan v v' hv, q'⟩
  | exit id => intro Q e h q ρ w a hA; exact wp_exit ⟨ρ, e, h, _, ExtN.refl M ρ w, hA, .exit id, q⟩
  | ret => intro Q e h q ρ w a hA; exact wp_ret ⟨ρ, e, h, _, ExtN.refl M ρ w, hA, .ret, q⟩
  | region id ops draw =>
    intro Q e h q
    cases draw with
    | true => exact q
    | false =>
      intro ρ w a hA
      refine wp_region_list ?_
      have := wpL_sound hC (ops := ops.toList) (ρ0 := ρ) (w0 := w) (Q := Post C N M ρ w Q)
        (fun e h ρ' a w' hk hE hA => ⟨ρ', e, h, .normal, hE.toN M, hA, .normal, hk⟩)
        (fun v v' h ρ' e a w' hk hE hA hv => ⟨ρ', [], h, .pan v, hE.toN M, ⟨hA.rel, (fun t u ht => by cases ht), hA.size, hA.defers⟩, .pan v v' hv, hk⟩)
        ops.toList e h ρ a w q (Ext.refl ρ w) hA
      rwa [Array.toArray_toList] at this
  | _ => intro Q e h q; exact q.elim
/-- A loop: what holds at the head of each round, with a number that sinks. -/
theorem loop_intro {α : Type} {c : Code} {Q : QA} {e : Env} {h : AHeap} (inv : α → Env → AHeap → Prop) (μ : α → Nat) (a0 : α) (h0 : inv a0 e h)
    (round : ∀ a e h, inv a e h → wpC C N M c (thenA (fun e' h' => ∃ a', μ a' < μ a ∧ inv a' e' h') Q) e h) : SemC C N M (.loop c) Q e h := by
  intro ρ w a hA
  refine wp_loop_ghost (fun n a' w' => ∃ α ρ' e' h', μ α = n ∧ inv α e' h' ∧ ExtN M ρ w ρ' w' ∧ At C N ρ' e' h' a' w') (μ a0) ⟨a0, ρ, e, h, rfl, h0, ExtN.refl M ρ w, hA⟩ ?_
  rintro n a' w' ⟨α, ρ', e', h', rfl, hi, hE, hA'⟩
  refine wp_mono (wpC_sound hC c _ e' h' (round α e' h' hi) ρ' w' a' hA') ?_
  rintro x a2 w2 ⟨ρ2, e2, h2, ax, hE2, hA2, hX, q'⟩
  cases hX with
  | normal =>
    obtain ⟨α', hlt, hi'⟩ := q'
    exact ⟨μ α', hlt, α', ρ2, e2, h2, rfl, hi', hE.trans hE2, hA2⟩
  | exit id => exact ⟨ρ2, e2, h2, _, hE.trans hE2, hA2, .exit id, q'⟩
  | ret => exact ⟨ρ2, e2, h2, _, hE.trans hE2, hA2, .ret, q'⟩
  | pan v v' hv => exact ⟨ρ2, e2, h2, _, hE.trans hE2, hA2, .pan v v' hv, q'⟩
/-- Fewer temporaries: what the sketch need not know. -/
theorem At.sub {ρ : Ren} {e e' : Env} {h : AHeap} {a : Act} {w : World} (hA : At C N ρ e h a w) (hs : ∀ t v, e'.get t = some v → e.get t = some v) : At C N ρ e' h a w :=
  ⟨hA.rel, fun t v k => hA.env t v (hs t v k), hA.size, hA.defers⟩
theorem SemC.sub {c : Code} {Q : QA} {e e' : Env} {h : AHeap} (hs : ∀ t v, e'.get t = some v → e.get t = some v) (q : SemC C N M c Q e' h) : SemC C N M c Q e h :=
  fun ρ w a hA => q ρ w a (hA.sub hC hs)
end

/-! ### functions -/
def argEnv : Nat → List Value → Env
  | _, [] => []
  | k, v :: r => (k, some v) :: argEnv (k + 1) r
def resK (T : Tys) : List ResultVar → Env → AHeap → (List Value → Prop) → Prop
  | [], _, _, K => K []
  | .tmp t :: r, e, h, K => match e.get t with
    | some v => resK T r e h fun vs => K (v :: vs)
    | none => False
  | .cell a t :: r, e, h, K => match e.get a with
    | some (.pointer (some ⟨i, off, none⟩)) => loadK T t (.pointer (some ⟨i, off, none⟩)) h fun f => match f.v with
      | some v => resK T r e h fun vs => K (v :: vs)
      | none => False
    | _ => False
def resM (tmps : Array Value) : ResultVar → Sem Value
  | .tmp t => pure (tmps.getD t undef)
  | .cell a t => do loadVar t (← asAddr (tmps.getD a undef))
def retV : List Value → Value
  | [v] => v
  | vs => .tuple vs.toArray
def retQ (C : Ctx) (fn : Func) (K E : KV) : QA := fun x e h => match x with
  | .normal => resK C.T fn.results.toList e h fun vs => K (retV vs) h
  | .ret => resK C.T fn.results.toList e h fun vs => K (retV vs) h
  | .pan v => E v h
  | .exit _ => False
section
variable {C : Ctx} (hC : C.Ok)
theorem argEnv_get : ∀ (args : List Value) (k t : Nat) (v : Value), (argEnv k args).get t = some v → k ≤ t ∧ args[t - k]? = some v := by
  intro args
  induction args with
  | nil => intro k t v h; cases h
  | cons a r ih =>
    intro k t v h
    rw [argEnv, Env.get_cons] at h
    by_cases hk : k = t
    · subst hk; rw [if_pos rfl] at h; cases h; simp
    · rw [if_neg hk] at h
      obtain ⟨h1, h2⟩ := ih (k + 1) t v h
      refine ⟨by omega, ?_⟩
      rw [show t - k = (t - (k + 1)) + 1 by omega, List.getElem?_cons_succ]; exact h2
theorem loadK_val {T : Tys} {t : TypeId} {p : Value} {h : AHeap} {K : Eff → Prop} (hp : ∃ i off, p = .pointer (some ⟨i, off, none⟩)) (q : loadK T t p h K) : ∃ i off ti cs sz wr sp ty v rd wr' al, p = .pointer (some ⟨i, off, none⟩) ∧ T.get t = some ti ∧ h[i]? = some (.cells cs sz wr sp ty) ∧
    (if ti.agg then off + ti.size ≤ cs.length ∧ v = .agg ((cs.drop off).take ti.size).toArray else cs[off]? = some v) ∧ K ⟨some v, rd, wr', al⟩ := by
  unfold loadK at q
  split at q
  · rename_i i off
    obtain ⟨ti, ht, cs, sz, wr, sp, ty, hb, q⟩ := tyK_ex q
    cases ha : ti.agg with
    | true =>
      rw [ha] at q
      obtain ⟨q1, out, rfl, q2⟩ := q
      exact ⟨i, off, ti, cs, sz, wr, sp, ty, _, _, _, _, rfl, ht, hb, (by rw [ha, if_pos rfl]; exact ⟨q1.le, rfl⟩), q2⟩
    | false =>
      rw [ha] at q
      obtain ⟨v, hv, q⟩ := q
      exact ⟨i, off, ti, cs, sz, wr, sp, ty, v, _, _, _, rfl, ht, hb, (by rw [ha]; simpa using hv), q⟩
  · obtain ⟨i, off, hp⟩ := hp; cases hp
  · exact q.elim
include hC
theorem res_run {ρ : Ren} {h : AHeap} {w : World} {tmps : Array Value} {e : Env} (hR : Rel C.W0 ρ h w) (hE : ERel ρ e tmps) : ∀ (rs : List ResultVar) (K : List Value → Prop), resK C.T rs e h K →
    ∃ vs vs', K vs ∧ LRel ρ vs vs' ∧ (rs.mapM (resM tmps)).run C.P w = Result.ok vs' w := by
  intro rs
  induction rs with
  | nil => intro K q; exact ⟨[], [], q, .nil ρ, by simp⟩
  | cons r rs ih =>
    intro K q
    cases r with
    | tmp t =>
      simp only [resK] at q
      split at q
      · rename_i v hv
        obtain ⟨vs, vs', k1, k2, k3⟩ := ih _ q
        obtain ⟨v', p1, p2⟩ := hE t v hv
        refine ⟨v :: vs, v' :: vs', k1, .cons p2 k2, ?_⟩
        rw [List.mapM_cons]
        have hg : tmps.getD t undef = v' := by rw [Array.getD_eq_getD_getElem?, p1]; rfl
        simp only [resM, Sem.run_bind, Sem.run_pure, Result.andThen_ok, k3, hg]
      · exact q.elim
    | cell a t =>
      simp only [resK] at q
      split at q
      · rename_i i0 off0 hp
        obtain ⟨i, off, ti, cs, sz, wr, sp, ty, v, rd, wr', al, hpe, ht, hb, hv, q⟩ := loadK_val ⟨i0, off0, rfl⟩ q
        cases hpe
        simp only at q
        obtain ⟨vs, vs', k1, k2, k3⟩ := ih _ q
        obtain ⟨p', p1, p2⟩ := hE a _ hp
        obtain ⟨l, hl, rfl⟩ := ptr_inv p2
        obtain ⟨v', q1, q2⟩ := loadVar_run hC.ty ht (rd_blk hR hl hb) hv
        refine ⟨v :: vs, v' :: vs', k1, .cons q1 k2, ?_⟩
        rw [List.mapM_cons]
        have hg : tmps.getD a undef = .pointer (some ⟨l.blk, l.off + off0, none⟩) := by rw [Array.getD_eq_getD_getElem?, p1]; rfl
        simp only [resM, Sem.run_bind, Sem.run_pure, Result.andThen_ok, hg, asAddr, q2, k3]
      · exact q.elim
/-- A function, by its body. -/
theorem CallP.of_body {f : FuncId} {fn : Func} {c : Code} (hf : C.P.funcs[f]? = some fn) (hb : fn.body = some c) (hnm : (fn.name == "runtime.NumGoroutine") = false) {args : List Value} {h : AHeap} {K E : KV} (hlen : Nat.ble args.length fn.ntmps = true)
    (q : wpC C fn.ntmps h.length c (retQ C fn K E) (argEnv 0 args) h) : CallP C f args h K E := by
  refine ⟨⟨fn, hf, hnm, by rw [hb]; rfl⟩, fun ρ w args' hR hL => ?_⟩
  have hle := Nat.le_of_ble_eq_true hlen
  have hl' : args'.length = args.length := hL.1.symm
  refine calls_of_wp hf hb (wp_mono (wpC_sound hC c _ _ _ q ρ w _ ⟨hR, ?_, ?_, rfl⟩) ?_)
  · intro t v ht
    obtain ⟨_, h2⟩ := argEnv_get args 0 t v ht
    rw [Nat.sub_zero] at h2
    have hlt : t < args'.length := by rw [hl']; exact (List.getElem?_eq_some_iff.mp h2).1
    refine ⟨args'[t], ?_, hL.2 t v _ h2 (by simp [hlt])⟩
    show (args'.toArray ++ Array.replicate (fn.ntmps - args'.toArray.size) undef)[t]? = _
    rw [Array.getElem?_append_left (by simpa using hlt)]
    simp [hlt]
  · show (args'.toArray ++ Array.replicate (fn.ntmps - args'.toArray.size) undef).size = fn.ntmps
    simp only [Array.size_append, List.size_toArray, Array.size_replicate]
    omega
  · rintro x a' w' ⟨ρ', e', h', ax, hE, hA, hX, q'⟩
    replace hE := hE.ext hR.dom
    have fin : resK C.T fn.results.toList e' h' (fun vs => K (retV vs) h') → a'.defers = [] ∧ ∃ v, (results fn a'.tmps).run C.P w' = .ok v w' ∧ CPost C ρ w K E (.returned v) w' := by
      intro q'
      obtain ⟨vs, vs', k1, k2, k3⟩ := res_run hC hA.rel hA.env _ _ q'
      have hrun : (results fn a'.tmps).run C.P w' = .ok (retV vs') w' := by
        have hres : results fn a'.tmps = (fn.results.mapM (resM a'.tmps)).bind fun vs => pure (if h : vs.size = 1 then vs[0] else .tuple vs) := by
          unfold results
          show Sem.bind _ _ = Sem.bind _ _
          congr 1
        rw [hres, show ∀ (x : Sem (Array Value)) (f : Array Value → Sem Value), x.bind f = x >>= f from fun _ _ => rfl]
        rw [Array.mapM_eq_mapM_toList]
        simp only [Sem.run_bind, Sem.run_map]
        rw [k3]
        simp only [Result.andThen_ok, Sem.run_pure]
        congr 1
        cases vs' with
        | nil => rfl
        | cons a r => cases r with
          | nil => rfl
          | cons b r => rfl
      refine ⟨hA.defers, _, hrun, ρ', retV vs, h', hE, hA.rel, ?_, k1⟩
      have hlen2 := k2.1
      have htup : VRel ρ' (.tuple vs.toArray) (.tuple vs'.toArray) := .tuple _ _ k2.arrs.1 k2.arrs.2
      cases vs with
      | nil => cases vs' with
        | nil => exact htup
        | cons => cases hlen2
      | cons a r => cases vs' with
        | nil => cases hlen2
        | cons a' r' => cases r with
          | nil => cases r' with
            | nil => exact k2.2 0 a a' rfl rfl
            | cons => simp at hlen2
          | cons b r => cases r' with
            | nil => simp at hlen2
            | cons b' r' => exact htup
    cases hX with
    | normal => exact fin q'
    | ret => exact fin q'
    | exit id => exact q'.elim
    | pan v v' hv => exact ⟨hA.defers, ρ', v, v', h', rfl, hE, hA.rel, hv, q'⟩
end
end Go.Den
namespace Go.Den
open Go Go.RowKit

/-! ### calls: what they leave, what they are given -/
/-- A value without names: what it stands for hangs on the unwritten blocks alone. -/
def NF (v : Value) : Prop := ∀ (ρ σ : Ren) (v' : Value), (∀ (b : Nat) (a : Array Value), ρ.im b = some a → σ.im b = some a) → VRel ρ v v' → VRel σ v v'
theorem AF.nf {v : Value} (h : AF v) : NF v := fun ρ σ v' _ q => by rw [h.eq q]; exact h.rel σ
theorem NF.int (k : IntKind) (n : Int) : NF (.int k n) := (AF.int k n).nf
theorem NF.bool (b : Bool) : NF (.bool b) := (AF.bool b).nf
theorem NF.string (s : ByteArray) : NF (.string s) := (AF.string s).nf
theorem NF.lv {cs : List Value} (n : Nat) (h : ∀ v ∈ cs, NF v) : NF (LV cs n) := fun ρ σ v' hs q => by
  rcases lst_inv q with ⟨p, c', rfl, rfl⟩ | ⟨arr, b, off, c', q1, q2, q3, rfl, q4⟩
  · exact .lst0 _ _ _
  · exact .lstL (hs _ _ q1) q2 q3 fun k u u' p r => h u (List.mem_of_getElem? p) ρ σ u' hs (q4 k u u' p r)
theorem NF.lp {cs : List Value} (n : Nat) (h : ∀ v ∈ cs, NF v) : NF (LP cs n) := fun ρ σ v' hs q => by
  obtain ⟨arr, b, a0, q1, q2, rfl, q4⟩ := lptr_inv q
  exact .lptrL (hs _ _ q1) q2 fun k u u' p r => h u (List.mem_of_getElem? p) ρ σ u' hs (q4 k u u' p r)
theorem NF.agg {cs : Array Value} (h : ∀ v ∈ cs, NF v) : NF (.agg cs) := fun ρ σ v' hs q => by
  cases q with
  | agg _ a' h1 h2 => exact .agg _ a' h1 fun i u u' p r => h u (Array.mem_of_getElem? p) ρ σ u' hs (h2 i u u' p r)
theorem NF.tuple {cs : Array Value} (h : ∀ v ∈ cs, NF v) : NF (.tuple cs) := fun ρ σ v' hs q => by
  cases q with
  | tuple _ a' h1 h2 => exact .tuple _ a' h1 fun i u u' p r => h u (Array.mem_of_getElem? p) ρ σ u' hs (h2 i u u' p r)
theorem NF.iface (t : TypeId) {v : Value} (h : NF v) : NF (.iface t v) := fun ρ σ v' hs q => by
  cases q with
  | iface _ _ u r => exact .iface t v u (h ρ σ u hs r)
theorem NF.func {f : Fn} {a b : Array Value} (hf : notY f = true) (h : ∀ v ∈ a, NF v) (k : ∀ v ∈ b, NF v) : NF (.func f a b) := fun ρ σ v' hs q => by
  cases q with
  | func _ _ a' _ b' h0 h1 h2 h3 h4 => exact .func f a a' b b' h0 h1 (fun i u u' p r => h u (Array.mem_of_getElem? p) ρ σ u' hs (h2 i u u' p r)) h3 (fun i u u' p r => k u (Array.mem_of_getElem? p) ρ σ u' hs (h4 i u u' p r))
  | lst _ _ _ _ _ _ _ _ _ _ => cases hf
  | lst0 _ _ _ => cases hf
  | lptr _ _ _ _ _ _ _ _ => cases hf
theorem NF.lrel {us : List Value} (h : ∀ v ∈ us, NF v) {ρ σ : Ren} (hs : ∀ (b : Nat) (a : Array Value), ρ.im b = some a → σ.im b = some a) {ds : List Value} (q : LRel ρ us ds) : LRel σ us ds :=
  ⟨q.1, fun j u u' p r => h u (List.mem_of_getElem? p) ρ σ u' hs (q.2 j u u' p r)⟩

section
variable {C : Ctx}
/-- A function that is given values without names, by its one answer, without names, too. -/
def PureF (C : Ctx) (f : FuncId) (args : List Value) (v : Value) : Prop := (∀ a ∈ args, NF a) ∧ NF v ∧ CallP C f args [] (fun u h => RT C.W0 0 [u] h [v] []) (fun _ _ => False)
def ren0 : Ren := ⟨fun _ => none, fun _ => none⟩
theorem rel_nil {W0 w : World} (h : Below W0.heap.size W0 w) : Rel W0 ren0 [] w :=
  ⟨(fun _ _ _ h => by cases h), (fun _ _ h => by cases h), (fun _ _ _ _ _ _ h => by cases h), h, (fun _ _ h => by cases h), (fun _ _ h => by cases h), (fun _ _ h => by cases h), (fun _ _ h => by cases h), (fun _ _ _ h => by cases h)⟩
theorem lrel_af {ρ : Ren} {us ds : List Value} (h : LRel ρ us ds) (ha : ∀ a ∈ us, AF a) : ds = us := by
  apply List.ext_getElem?
  intro j
  rcases Nat.lt_or_ge j us.length with hj | hj
  · have hj' : j < ds.length := by rw [← h.1]; exact hj
    have p1 : us[j]? = some us[j] := by simp [hj]
    have p2 : ds[j]? = some ds[j] := by simp [hj']
    rw [p1, p2, (ha us[j] (List.getElem_mem hj)).eq (h.2 j _ _ p1 p2)]
  · rw [List.getElem?_eq_none hj, List.getElem?_eq_none (by rw [← h.1]; exact hj)]
theorem lrel_of_af {ρ : Ren} {us : List Value} (ha : ∀ a ∈ us, AF a) : LRel ρ us us :=
  ⟨rfl, fun j u u' p q => by rw [p] at q; cases q; exact (ha u (List.mem_of_getElem? p)).rel ρ⟩
/-- A laying of the unwritten blocks alone. -/
def Ren.bare (ρ : Ren) : Ren := ⟨fun _ => none, ρ.im⟩
theorem Rel.bare {W0 : World} {ρ : Ren} {h : AHeap} {w : World} (hR : Rel W0 ρ h w) : Rel W0 ρ.bare [] w :=
  ⟨(fun _ _ _ h => by cases h), (fun _ _ h => by cases h), (fun _ _ _ _ _ _ h => by cases h), hR.low, (fun _ _ h => by cases h), (fun _ _ h => by cases h), (fun _ _ h => by cases h), hR.imm, (fun _ _ _ h => by cases h)⟩
/-- The world may turn where the sketch does not look. -/
theorem Rel.frame {W0 : World} {ρ σ : Ren} {h : AHeap} {w w' : World} (hR : Rel W0 ρ h w) (hR' : Rel W0 σ [] w') (hE : ExtN 0 ρ.bare w σ w') : Rel W0 ⟨ρ.nm, σ.im⟩ h w' ∧ Ext ρ w ⟨ρ.nm, σ.im⟩ w' := by
  have hk : ∀ b, b < w.heap.size → w'.heap[b]? = w.heap[b]? := fun b hb => hE.keep b hb fun _ _ h => by cases h
  have hs : Sub ρ ⟨ρ.nm, σ.im⟩ := ⟨fun _ _ z => z, hE.im⟩
  have hi : ∀ (b : Nat) (a : Array Value), σ.im b = some a → ρ.im b = some a ∨ w.heap.size ≤ b := fun b a e => by
    rcases hE.iown b a e with q | q | ⟨j, m, hj, _⟩
    · exact .inl q
    · exact .inr q
    · cases hj
  refine ⟨⟨fun i l b hi hb => (hR.blk i l b hi hb).mono hs (hk _ (hR.room i l hi)), hR.dom, hR.sep, hR'.low, hR.high, fun i l hi => Nat.lt_of_lt_of_le (hR.room i l hi) hE.size, hR.tot, hR'.imm, ?_⟩,
    ⟨hs, fun i l h k => .inl ⟨i, l, h, k, rfl⟩, hE.size, fun b hb _ => hk b hb, hE.os, hE.tape, hE.output, fun b a e => (hi b a e).imp id .inl⟩⟩
  intro i l b hl hb hlv hw
  show σ.im l.blk = none
  cases q : σ.im l.blk with
  | none => rfl
  | some a =>
    rcases hi _ _ q with p | p
    · have := hR.isep i l b hl hb hlv hw; rw [this] at p; cases p
    · have := hR.room i l hl; omega
theorem PureF.run {f : FuncId} {args : List Value} {v : Value} (p : PureF C f args v) {ρ : Ren} {h : AHeap} {w : World} {args' : List Value} (hR : Rel C.W0 ρ h w) (hL : LRel ρ args args') :
    Calls C.P f args'.toArray w fun en w' => ∃ v' σ, en = .returned v' ∧ VRel σ v v' ∧ Ext ρ w σ w' ∧ Rel C.W0 σ h w' := by
  obtain ⟨ha, hv, c⟩ := p
  refine (c.calls ρ.bare w _ hR.bare (NF.lrel (ρ := ρ) (σ := ρ.bare) ha (fun _ _ z => z) hL)).mono fun en w' q => ?_
  cases en with
  | returned v' =>
    obtain ⟨ρ', u, h', hE, hR', hV, hT⟩ := q
    obtain ⟨ρ2, hR2, hL2, hE2⟩ := hT ρ' w' [v'] hR' (.cons hV (.nil ρ'))
    obtain ⟨h1, h2⟩ := hR.frame hR2 ((hE.toN 0).trans hE2)
    exact ⟨v', ⟨ρ.nm, ρ2.im⟩, rfl, hv ρ2 ⟨ρ.nm, ρ2.im⟩ v' (fun _ _ z => z) (hL2.2 0 _ _ rfl rfl), h2, h1⟩
  | panicked ch => obtain ⟨_, _, _, _, _, _, _, _, q⟩ := q; exact q.elim
  | outgrown => exact q.elim
theorem PureF.call {f : FuncId} {args : List Value} {v : Value} (p : PureF C f args v) {h : AHeap} {K E : KV} (hk : K v h) : CallP C f args h K E := by
  refine ⟨p.2.2.enters, fun ρ w args' hR hL => ?_⟩
  refine (p.run hR hL).mono fun en w' q => ?_
  obtain ⟨v', σ, rfl, hv, hE, hR'⟩ := q
  exact ⟨σ, v, h, hE, hR', hv, hk⟩
/-- From a contract of the machine's own. -/
theorem PureF.of_calls {f : FuncId} {args : List Value} {v : Value} (ha : ∀ a ∈ args, AF a) (hv : AF v) (hen : Enters C.P f)
    (c : ∀ w : World, Below C.W0.heap.size C.W0 w → Calls C.P f args.toArray w fun e w' => e = .returned v ∧ Below w.heap.size w w') : PureF C f args v := by
  refine ⟨fun a h => (ha a h).nf, hv.nf, hen, fun ρ w args' hR hL => ?_⟩
  obtain rfl := lrel_af hL ha
  refine (c w hR.low).mono fun en w' q => ?_
  obtain ⟨rfl, hb⟩ := q
  refine ⟨ρ, v, [], ?_, ?_, hv.rel ρ, RT.refl _ _ _ _⟩
  · exact ⟨Sub.refl ρ, fun i l h k => .inl ⟨i, l, h, k, rfl⟩, hb.size, fun b hlt _ => hb.block b hlt, hb.os, hb.tape, hb.output, fun _ _ z => .inl z⟩
  · refine ⟨(fun i l b hi hb' => by cases hb'), (fun i l hi => hR.dom i l hi), (fun i j l m b c hi hj hij hb' => by cases hb'), ?_, hR.high, (fun i l hi => Nat.lt_of_lt_of_le (hR.room i l hi) hb.size), (fun i b hb' => by cases hb'), ?_, (fun i l b _ hb' => by cases hb')⟩
    · exact hR.low.trans ⟨hb.os, hb.tape, hb.output, hb.size, fun k hk => hb.block k (Nat.lt_of_lt_of_le hk hR.low.size)⟩
    · intro b a e
      obtain ⟨t, fr, q⟩ := hR.imm b a e
      exact ⟨t, fr, (hb.block b (hR.im_room e)).trans q⟩
/-- To a contract of the machine's own. -/
theorem PureF.calls {f : FuncId} {args : List Value} {v : Value} (p : PureF C f args v) (ha : ∀ a ∈ args, AF a) (hv : AF v) : Calls C.P f args.toArray C.W0 fun e w' => e = .returned v ∧ Below C.W0.heap.size C.W0 w' := by
  refine (p.run (rel_nil (Below.refl _ _)) (lrel_of_af ha)).mono fun en w' q => ?_
  obtain ⟨v', σ, rfl, q1, q2, q3⟩ := q
  exact ⟨by rw [hv.eq q1], q3.low⟩
/-- The same, where lists that lie in the first world are handed in. -/
theorem PureF.calls_at {f : FuncId} {args args' : List Value} {v : Value} (p : PureF C f args v) {ρ : Ren} (hR : Rel C.W0 ρ [] C.W0) (hL : LRel ρ args args') (hv : AF v) : Calls C.P f args'.toArray C.W0 fun e w' => e = .returned v ∧ Below C.W0.heap.size C.W0 w' := by
  refine (p.run hR hL).mono fun en w' q => ?_
  obtain ⟨v', σ, rfl, q1, q2, q3⟩ := q
  exact ⟨by rw [hv.eq q1], q3.low⟩
end
end Go.Den
namespace Go.Den
open Go Go.RowKit

/-! ### the types, by a reckoning -/
def beqK : IntKind → IntKind → Bool := keq
def veq1 : Value → Value → Bool
  | .bool a, .bool b => a == b
  | .int j a, .int k b => keq j k && a == b
  | .string a, .string b => a.data.toList == b.data.toList
  | .pointer none, .pointer none => true
  | .slice none a b, .slice none c d => Nat.beq a c && Nat.beq b d
  | .map none, .map none => true
  | .nilFunc, .nilFunc => true
  | .nilIface, .nilIface => true
  | _, _ => false
theorem veq1_eq {a b : Value} (h : veq1 a b = true) : a = b := by
  unfold veq1 at h
  split at h
  · rw [eq_of_beq h]
  · simp only [Bool.and_eq_true] at h
    rw [keq_eq h.1, eq_of_beq h.2]
  · rename_i x y
    have := eq_of_beq h
    obtain ⟨⟨x⟩⟩ := x; obtain ⟨⟨y⟩⟩ := y
    simp only at this; rw [this]
  · rfl
  · simp only [Bool.and_eq_true] at h
    rw [Nat.eq_of_beq_eq_true h.1, Nat.eq_of_beq_eq_true h.2]
  · rfl
  · rfl
  · rfl
  · cases h
def veqL : List Value → List Value → Bool
  | [], [] => true
  | a :: r, b :: s => veq1 a b && veqL r s
  | _, _ => false
theorem veqL_eq : ∀ {a b : List Value}, veqL a b = true → a = b
  | [], [], _ => rfl
  | a :: r, b :: s, h => by
    simp only [veqL, Bool.and_eq_true] at h
    rw [veq1_eq h.1, veqL_eq h.2]
  | [], _ :: _, h => by cases h
  | _ :: _, [], h => by cases h
def isAggV : Value → Bool
  | .agg _ => true
  | _ => false
def infoChk (P : Program) (t : TypeId) (size bytes : Nat) (agg : Bool) (z : List Value) : Bool :=
  match P.info? t, P.underlying t with
  | some info, some d => Nat.beq info.size size && Nat.beq info.bytes bytes && (aggD d == agg) && z.all cl1 && Nat.beq z.length size && (match info.zero with
    | some zv => veqL zv.cells.toList z && (isAggV zv == agg)
    | none => false)
  | _, _ => false
theorem infoChk_ok {P : Program} {t : TypeId} {size bytes : Nat} {agg : Bool} {z : List Value} (h : infoChk P t size bytes agg z = true) : InfoOk P t size bytes agg z := by
  unfold infoChk at h
  split at h
  · rename_i info d hi hd
    simp only [Bool.and_eq_true] at h
    obtain ⟨⟨⟨⟨⟨h1, h2⟩, h3⟩, h4⟩, h5⟩, h6⟩ := h
    split at h6
    · rename_i zv hz
      simp only [Bool.and_eq_true] at h6
      have hc := veqL_eq h6.1
      refine ⟨info, d, zv, hi, Nat.eq_of_beq_eq_true h1, Nat.eq_of_beq_eq_true h2, hz, hc, hd, eq_of_beq h3, fun ha => ?_, fun ha => ?_, h4, Nat.eq_of_beq_eq_true h5⟩
      · have := eq_of_beq h6.2
        rw [ha] at this
        cases zv <;> first | (cases this; done) | skip
        rw [← hc]; rfl
      · have := eq_of_beq h6.2
        rw [ha] at this
        have : z = [zv] := by
          rw [← hc]
          cases zv <;> first | rfl | (cases this; done)
        refine ⟨this, ?_⟩
        rw [this] at h4
        simpa using h4
    · cases h6
  · cases h
def fieldsChk (P : Program) : List Field → List (Nat × Nat × Bool) → Bool
  | [], [] => true
  | f :: r, x :: s => Nat.beq f.offset x.1 && (match P.info? f.type, P.underlying f.type with
    | some info, some d => Nat.beq info.size x.2.1 && (aggD d == x.2.2)
    | _, _ => false) && fieldsChk P r s
  | _, _ => false
theorem fieldsChk_ok {P : Program} : ∀ {l : List Field} {fs : List (Nat × Nat × Bool)}, fieldsChk P l fs = true → l.length = fs.length ∧
    ∀ (k : Nat) (x : Nat × Nat × Bool), fs[k]? = some x → ∃ f : Field, l[k]? = some f ∧ f.offset = x.1 ∧ ∃ (info : TypeInfo) (d : TypeDesc), P.info? f.type = some info ∧ info.size = x.2.1 ∧ P.underlying f.type = some d ∧ aggD d = x.2.2
  | [], [], _ => ⟨rfl, fun k x h => by cases h⟩
  | f :: r, y :: s, h => by
    simp only [fieldsChk, Bool.and_eq_true] at h
    obtain ⟨⟨h1, h2⟩, h3⟩ := h
    obtain ⟨i1, i2⟩ := fieldsChk_ok h3
    refine ⟨by simp [i1], fun k x hk => ?_⟩
    cases k with
    | zero =>
      cases hk
      split at h2
      · rename_i info d hi hd
        simp only [Bool.and_eq_true] at h2
        exact ⟨f, rfl, Nat.eq_of_beq_eq_true h1, info, d, hi, Nat.eq_of_beq_eq_true h2.1, hd, eq_of_beq h2.2⟩
      · cases h2
    | succ k => exact i2 k x hk
  | [], _ :: _, h => by cases h
  | _ :: _, [], h => by cases h
def shChk (P : Program) (t : TypeId) : Sh → Bool
  | .bool => match P.underlying t with | some .bool => true | _ => false
  | .int k => match P.underlying t with | some (.int j) => keq j k | _ => false
  | .string => match P.underlying t with | some .string => true | _ => false
  | .uptr => match P.underlying t with | some .unsafePointer => true | _ => false
  | .ptr esz e => match P.underlying t with | some (.pointer e') => Nat.beq e' e && (match P.info? e with | some info => Nat.beq info.size esz | _ => false) | _ => false
  | .slice esz eb ea ez e => match P.underlying t with | some (.slice e') => Nat.beq e' e && infoChk P e esz eb ea ez | _ => false
  | .struct fs => match P.underlying t with | some (.struct fields) => fieldsChk P fields.toList fs | _ => false
  | .arr n esz ea => match P.underlying t with
    | some (.array m e) => Nat.beq m n && (match P.info? e, P.underlying e with
      | some info, some d => Nat.beq info.size esz && (aggD d == ea)
      | _, _ => false)
    | _ => false
  | .map ks ez => match P.underlying t with
    | some (.map k e) => (match P.underlying k with | some .string => ks | some (.int _) => !ks | _ => false) && cl ez && (match P.info? e with
      | some info => (match info.zero, ez with
        | some (.agg a), .agg b => veqL a.toList b.toList
        | some z, ez => veq1 z ez
        | none, _ => false)
      | none => false)
    | _ => false
  | .func => match P.underlying t with | some (.func _ _ _) => true | _ => false
  | .iface => match P.underlying t with | some (.interface _) => true | _ => false
  | .other => true
theorem shChk_ok {P : Program} {t : TypeId} {s : Sh} (h : shChk P t s = true) : shOk P t s := by
  cases s <;> simp only [shChk] at h <;> simp only [shOk]
  case bool => split at h <;> first | assumption | cases h
  case int k =>
    split at h
    · (rename_i hu; rw [hu, keq_eq h])
    · cases h
  case string => split at h <;> first | assumption | cases h
  case uptr => split at h <;> first | assumption | cases h
  case ptr esz e =>
    split at h
    · rename_i e' hu
      simp only [Bool.and_eq_true] at h
      have := Nat.eq_of_beq_eq_true h.1
      subst this
      have h := h.2
      split at h
      · rename_i info hi; exact ⟨info, hu, hi, Nat.eq_of_beq_eq_true h⟩
      · cases h
    · cases h
  case slice esz eb ea ez e =>
    split at h
    · rename_i e' hu
      simp only [Bool.and_eq_true] at h
      have := Nat.eq_of_beq_eq_true h.1
      subst this
      exact ⟨hu, infoChk_ok h.2⟩
    · cases h
  case struct fs =>
    split at h
    · rename_i fields hu
      obtain ⟨h1, h2⟩ := fieldsChk_ok h
      refine ⟨fields, hu, by simpa using h1, fun k x hk => ?_⟩
      obtain ⟨f, g1, g2⟩ := h2 k x hk
      exact ⟨f, by simpa using g1, g2⟩
    · cases h
  case arr n esz ea =>
    split at h
    · rename_i m e hu
      simp only [Bool.and_eq_true] at h
      obtain ⟨h1, h2⟩ := h
      have := Nat.eq_of_beq_eq_true h1
      subst this
      split at h2
      · rename_i info d hi hd
        simp only [Bool.and_eq_true] at h2
        exact ⟨e, info, d, hu, hi, Nat.eq_of_beq_eq_true h2.1, hd, eq_of_beq h2.2⟩
      · cases h2
    · cases h
  case map ks ez =>
    split at h
    · rename_i k e hu
      simp only [Bool.and_eq_true] at h
      obtain ⟨⟨h1, h2⟩, h3⟩ := h
      split at h3
      · rename_i info hi
        have hz : info.zero = some ez := by
          split at h3
          · rename_i hz; rw [hz]
            have h9 := veqL_eq h3
            congr 2
            exact Array.toList_inj.mp h9
          · rename_i hz _; rw [hz, veq1_eq h3]
          · cases h3
        split at h1
        · rename_i hk; subst h1; exact ⟨k, e, _, info, hu, hk, by simp, hi, hz, h2⟩
        · rename_i hk
          have : ks = false := by simpa using h1
          subst this
          exact ⟨k, e, _, info, hu, hk, by simp, hi, hz, h2⟩
        · cases h1
      · cases h3
    · cases h
  case func =>
    split at h
    · (rename_i hu; exact ⟨_, _, _, hu⟩)
    · cases h
  case iface =>
    split at h
    · (rename_i hu; exact ⟨_, hu⟩)
    · cases h
def kdE : Kd → Kd → Bool
  | .b, .b | .i, .i | .s, .s => true
  | _, _ => false
def kdsE : List Kd → List Kd → Bool
  | [], [] => true
  | a :: r, b :: s => kdE a b && kdsE r s
  | _, _ => false
theorem kdsE_eq : ∀ {a b : List Kd}, kdsE a b = true → a = b
  | [], [], _ => rfl
  | a :: r, b :: s, h => by
    simp only [kdsE, Bool.and_eq_true] at h
    have : a = b := by
      have h1 := h.1
      cases a <;> cases b <;> first | rfl | cases h1
    rw [this, kdsE_eq h.2]
  | [], _ :: _, h => by cases h
  | _ :: _, [], h => by cases h
def plChk (P : Program) (t : TypeId) : List Kd → Bool
  | [] => true
  | k :: ks => (match plainKs P 20 t with | some l => kdsE l (k :: ks) | none => false) && aggD ((P.underlying t).getD .invalid) && !P.eqGuardType P.depth t
theorem plChk_ok {P : Program} {t : TypeId} {l : List Kd} (h : plChk P t l = true) (hl : l ≠ []) : plainKs P 20 t = some l ∧ aggD ((P.underlying t).getD .invalid) = true ∧ P.eqGuardType P.depth t = false := by
  cases l with
  | nil => exact absurd rfl hl
  | cons k ks =>
    simp only [plChk, Bool.and_eq_true] at h
    obtain ⟨⟨h1, h2⟩, h3⟩ := h
    refine ⟨?_, h2, by simpa using h3⟩
    split at h1
    · rename_i l hq; rw [hq, kdsE_eq h1]
    · cases h1
def tysChk (P : Program) (T : Tys) : Bool := T.all fun p => infoChk P p.1 p.2.size p.2.bytes p.2.agg p.2.zero && shChk P p.1 p.2.sh && plChk P p.1 p.2.pl
theorem tysChk_ok {P : Program} : ∀ {T : Tys}, tysChk P T = true → TysOk P T ∧ TysPl P T := by
  intro T h
  suffices H : ∀ t i, T.get t = some i → TyOk P t i ∧ (i.pl ≠ [] → plainKs P 20 t = some i.pl ∧ aggD ((P.underlying t).getD .invalid) = true ∧ P.eqGuardType P.depth t = false) from ⟨fun t i q => (H t i q).1, fun t i q => (H t i q).2⟩
  intro t i
  intro ht
  induction T with
  | nil => cases ht
  | cons p r ih =>
    obtain ⟨u, j⟩ := p
    simp only [tysChk, List.all_cons, Bool.and_eq_true] at h
    have hg : Tys.get ((u, j) :: r) t = bif Nat.beq u t then some j else Tys.get r t := rfl
    rw [hg] at ht
    cases hb : Nat.beq u t with
    | true =>
      rw [hb] at ht; cases ht
      have := Nat.eq_of_beq_eq_true hb
      subst this
      exact ⟨⟨infoChk_ok h.1.1.1, shChk_ok h.1.1.2⟩, plChk_ok h.1.2⟩
    | false =>
      rw [hb] at ht
      exact ih h.2 ht
end Go.Den
namespace Go.Den
open Go Go.RowKit

/-! ### regions whose order is open -/
/-- The last of the numbers below n that are in D and hit. -/
def LW {β : Type} (D : Nat → Bool) (hit : Nat → Bool) (val : Nat → β) (base : β) : Nat → β
  | 0 => base
  | k + 1 => if (D k && hit k) = true then val k else LW D hit val base k
theorem LW_congr {β : Type} {D D' hit : Nat → Bool} {val : Nat → β} {base : β} : ∀ {n : Nat}, (∀ k, k < n → hit k = true → D k = D' k) → LW D hit val base n = LW D' hit val base n
  | 0, _ => rfl
  | n + 1, h => by
    have ih := LW_congr (β := β) (val := val) (base := base) (n := n) fun k hk => h k (by omega)
    unfold LW
    cases hh : hit n with
    | false => simp [ih]
    | true => rw [h n (by omega) hh, ih]
theorem LW_miss {β : Type} {D D' hit : Nat → Bool} {val : Nat → β} {base : β} {n i : Nat} (hi : hit i = false) (hD : ∀ k, k ≠ i → D' k = D k) : LW D' hit val base n = LW D hit val base n :=
  LW_congr fun k _ hk => hD k fun e => by subst e; rw [hi] at hk; cases hk
theorem LW_at {β : Type} {D hit : Nat → Bool} {val : Nat → β} {base : β} {i : Nat} (h1 : D i = true) (h2 : hit i = true) : ∀ {n : Nat}, i < n → (∀ k, i < k → k < n → hit k = true → D k = false) → LW D hit val base n = val i
  | 0, h, _ => by omega
  | n + 1, h, hk => by
    unfold LW
    by_cases e : n = i
    · subst e; simp [h1, h2]
    · have hlt : i < n := by omega
      have : (D n && hit n) = false := by
        cases hh : hit n with
        | false => simp
        | true => rw [hk n hlt (by omega) hh]; rfl
      rw [this]
      simp only [Bool.false_eq_true, if_false]
      exact LW_at h1 h2 hlt fun k a b c => hk k a (by omega) c

/-- What an operation of such a region has done. -/
structure LE where
  want : Bool
  v : Option Value
  rd : List (Nat × ABlk)
  wr : List (Nat × ABlk)
  al : List ABlk
  nid : Nat
def LE.put (e : LE) : List (Nat × ABlk) := match e.al with
  | [] => e.wr
  | b :: r => e.wr ++ alAt e.nid (b :: r)
theorem LE.put_eq (e : LE) : e.put = e.wr ++ alAt e.nid e.al := by
  unfold LE.put; cases e.al <;> simp [alAt]
def lk (l : List (Nat × ABlk)) (id : Nat) : Option ABlk := match l with
  | [] => none
  | (i, b) :: r => match lk r id with
    | some c => some c
    | none => if i = id then some b else none
theorem lk_mem : ∀ {l : List (Nat × ABlk)} {id : Nat} {b : ABlk}, lk l id = some b → (id, b) ∈ l
  | (i, c) :: r, id, b, h => by
    unfold lk at h
    split at h
    · rename_i d hd; cases h; exact List.mem_cons_of_mem _ (lk_mem hd)
    · split at h
      · rename_i e; cases h; subst e; exact List.mem_cons_self ..
      · cases h
theorem lk_none : ∀ {l : List (Nat × ABlk)} {id : Nat}, lk l id = none → ∀ p ∈ l, p.1 ≠ id
  | (i, c) :: r, id, h, p, hp => by
    unfold lk at h
    split at h
    · cases h
    · rename_i hd
      split at h
      · cases h
      · rename_i e
        rcases List.mem_cons.mp hp with rfl | hp
        · exact e
        · exact lk_none hd p hp
theorem hset_get (wr : List (Nat × ABlk)) : ∀ (h : AHeap) (id : Nat), id < h.length → (hset h wr)[id]? = match lk wr id with | some b => some b | none => h[id]? := by
  induction wr with
  | nil => intro h id _; rfl
  | cons p r ih =>
    intro h id hid
    obtain ⟨i, b⟩ := p
    simp only [hset]
    rw [ih _ _ (by rw [List.length_set]; exact hid)]
    have hlk : lk ((i, b) :: r) id = match lk r id with | some c => some c | none => if i = id then some b else none := rfl
    rw [hlk]
    cases hl : lk r id with
    | some c => rfl
    | none =>
      simp only
      by_cases e : i = id
      · subst e; rw [if_pos rfl, List.getElem?_set_self hid]
      · rw [if_neg e, List.getElem?_set_ne e]
def eqM (b : Nat) (l : List (List Nat)) : List Nat := l.getD b []
/-- Which operations come before which: the waits, closed up. -/
def befM (ops : List Oper) : List Nat :=
  ops.foldl (fun acc o => acc ++ [o.after.toList.foldl (fun m e => if Region.binds .any e then m ||| 2 ^ e.on ||| acc.getD e.on 0 else m) 0]) []
def bef (bm : List Nat) (i j : Nat) : Bool := Nat.blt i j && (bm.getD j 0).testBit i
theorem bef_lt {bm : List Nat} {i j : Nat} (h : bef bm i j = true) : i < j := by
  simp only [bef, Bool.and_eq_true] at h
  exact Nat.le_of_ble_eq_true h.1
def befOk (ops : List Oper) (bm : List Nat) : Bool :=
  (List.range ops.length).all fun j => match ops[j]? with
    | none => true
    | some o => (o.after.toList.all fun e => !Region.binds .any e || Nat.blt e.on j) &&
        (List.range j).all fun i => !bef bm i j || o.after.toList.any fun e => Region.binds .any e && (Nat.beq e.on i || bef bm i e.on)
/-- The temporaries at which an operation looks, and the one that it writes. -/
def namesT (ops : List Oper) (o : Oper) : List Nat :=
  o.op.operands.toList.filterMap (fun | .tmp t => some t | _ => none) ++ (match o.guard with
    | some (j, _) => (match ops[j]? with | some oj => oj.dst.toList | none => [])
    | none => []) ++ o.dst.toList
def apartOk (ops : List Oper) (bm : List Nat) : Bool :=
  (List.range ops.length).all fun i => match ops[i]? with
    | none => true
    | some oi => match oi.dst with
      | none => true
      | some t => (List.range ops.length).all fun j => Nat.beq i j || bef bm i j || bef bm j i || match ops[j]? with
        | none => true
        | some oj => !(namesT ops oj).any (Nat.beq t ·)
def drawOk (ops : List Oper) (bm : List Nat) : Bool := befOk ops bm && apartOk ops bm
theorem befOk_spec {ops : List Oper} {bm : List Nat} (h : befOk ops bm = true) {j : Nat} {o : Oper} (ho : ops[j]? = some o) :
    (∀ e ∈ o.after, Region.binds .any e = true → e.on < j) ∧ ∀ i, i < j → bef bm i j = true → ∃ e ∈ o.after, Region.binds .any e = true ∧ (e.on = i ∨ bef bm i e.on = true) := by
  have hj : j < ops.length := (List.getElem?_eq_some_iff.mp ho).1
  have h1 := List.all_eq_true.mp h j (List.mem_range.mpr hj)
  rw [ho] at h1
  simp only [Bool.and_eq_true] at h1
  refine ⟨fun e he hb => ?_, fun i hi hb => ?_⟩
  · have := List.all_eq_true.mp h1.1 e (Array.mem_toList_iff.mpr he)
    rw [hb] at this
    simpa using this
  · have := List.all_eq_true.mp h1.2 i (List.mem_range.mpr hi)
    rw [hb] at this
    simp only [Bool.not_true, Bool.false_or, List.any_eq_true, Bool.and_eq_true, Bool.or_eq_true] at this
    obtain ⟨e, he, hb', hx⟩ := this
    exact ⟨e, Array.mem_toList_iff.mp he, hb', hx.imp Nat.eq_of_beq_eq_true id⟩
theorem apartOk_spec {ops : List Oper} {bm : List Nat} (h : apartOk ops bm = true) {i j t : Nat} {oi oj : Oper} (hi : ops[i]? = some oi) (hd : oi.dst = some t) (hj : ops[j]? = some oj) (hne : i ≠ j) (ht : t ∈ namesT ops oj) :
    bef bm i j = true ∨ bef bm j i = true := by
  have h1 := List.all_eq_true.mp h i (List.mem_range.mpr (List.getElem?_eq_some_iff.mp hi).1)
  rw [hi] at h1
  simp only [hd] at h1
  have h2 := List.all_eq_true.mp h1 j (List.mem_range.mpr (List.getElem?_eq_some_iff.mp hj).1)
  rw [hj] at h2
  simp only [Bool.or_eq_true] at h2
  rcases h2 with ((h2 | h2) | h2) | h2
  · exact absurd (Nat.eq_of_beq_eq_true h2) hne
  · exact .inl h2
  · exact .inr h2
  · exfalso
    have : (namesT ops oj).any (Nat.beq t ·) = true := List.any_eq_true.mpr ⟨t, ht, by simp⟩
    rw [this] at h2; cases h2
end Go.Den
namespace Go.Den
open Go Go.RowKit

/-! ### values told anew -/
/-- What u says under a laying, v says under each laying that R lets follow. -/
def VTo (R : Ren → Ren → Prop) (u v : Value) : Prop := ∀ (ρ σ : Ren) (v' : Value), R ρ σ → VRel ρ u v' → VRel σ v v'
def LTo (R : Ren → Ren → Prop) (us vs : List Value) : Prop := us.length = vs.length ∧ ∀ (j : Nat) (u v : Value), us[j]? = some u → vs[j]? = some v → VTo R u v
/-- Unwritten blocks stay. -/
class Keeps (R : Ren → Ren → Prop) : Prop where
  im : ∀ {ρ σ : Ren}, R ρ σ → ∀ (b : Nat) (a : Array Value), ρ.im b = some a → σ.im b = some a
section
variable {R : Ren → Ren → Prop}
theorem VTo.nf [Keeps R] {v : Value} (h : NF v) : VTo R v v := fun ρ σ v' hr q => h ρ σ v' (Keeps.im hr) q
theorem VTo.int [Keeps R] {k : IntKind} {a b : Int} (h : a = b) : VTo R (.int k a) (.int k b) := by subst h; exact .nf (.int k a)
theorem VTo.bool [Keeps R] {a b : Bool} (h : a = b) : VTo R (.bool a) (.bool b) := by subst h; exact .nf (.bool a)
theorem VTo.string [Keeps R] {a b : ByteArray} (h : a = b) : VTo R (.string a) (.string b) := by subst h; exact .nf (.string a)
theorem VTo.eq [Keeps R] {u v : Value} (n : NF v) (h : u = v) : VTo R u v := by subst h; exact .nf n
theorem LTo.nil : LTo R [] [] := ⟨rfl, fun j u v p => by cases p⟩
theorem LTo.cons {u v : Value} {us vs : List Value} (h : VTo R u v) (k : LTo R us vs) : LTo R (u :: us) (v :: vs) := by
  refine ⟨by simp [k.1], fun j x y p q => ?_⟩
  cases j with
  | zero => cases p; cases q; exact h
  | succ j => exact k.2 j x y p q
theorem LTo.nf [Keeps R] {us : List Value} (h : ∀ v ∈ us, NF v) : LTo R us us := ⟨rfl, fun j u v p q => by rw [p] at q; cases q; exact .nf (h u (List.mem_of_getElem? p))⟩
theorem LTo.eq [Keeps R] {us vs : List Value} (h : ∀ v ∈ vs, NF v) (e : us = vs) : LTo R us vs := by subst e; exact .nf h
theorem LTo.app {a b c d : List Value} (h : LTo R a c) (k : LTo R b d) : LTo R (a ++ b) (c ++ d) := by
  refine ⟨by simp [h.1, k.1], fun j u u' p q => ?_⟩
  by_cases hj : j < a.length
  · rw [List.getElem?_append_left hj] at p
    rw [List.getElem?_append_left (by rw [← h.1]; exact hj)] at q
    exact h.2 j u u' p q
  · rw [List.getElem?_append_right (by omega)] at p
    rw [List.getElem?_append_right (by have := h.1; omega)] at q
    rw [← h.1] at q
    exact k.2 _ u u' p q
theorem LTo.rel {us vs : List Value} (h : LTo R us vs) {ρ σ : Ren} (hr : R ρ σ) {ds : List Value} (q : LRel ρ us ds) : LRel σ vs ds := by
  refine ⟨h.1.symm.trans q.1, fun j v d p r => ?_⟩
  have hj : j < us.length := by rw [h.1]; exact (List.getElem?_eq_some_iff.mp p).1
  have p' : us[j]? = some us[j] := by simp [hj]
  exact h.2 j us[j] v p' p ρ σ d hr (q.2 j us[j] d p' r)
theorem VTo.agg {us vs : List Value} (h : LTo R us vs) : VTo R (.agg us.toArray) (.agg vs.toArray) := fun ρ σ v' hr q => by
  obtain ⟨ds, rfl, hL⟩ := agg_inv q
  have := (h.rel hr hL).arr
  rwa [Array.toArray_toList] at this
theorem VTo.tuple {us vs : List Value} (h : LTo R us vs) : VTo R (.tuple us.toArray) (.tuple vs.toArray) := fun ρ σ v' hr q => by
  obtain ⟨ds, rfl, hL⟩ := tuple_inv q
  have := (h.rel hr hL).arrs
  have := VRel.tuple (ρ := σ) vs.toArray ds.toList.toArray this.1 this.2
  rwa [Array.toArray_toList] at this
theorem VTo.iface {t : TypeId} {u v : Value} (h : VTo R u v) : VTo R (.iface t u) (.iface t v) := fun ρ σ v' hr q => by
  cases q with
  | iface _ _ d r => exact .iface t v d (h ρ σ d hr r)
theorem VTo.func {f : Fn} (hf : notY f = true) {us vs us' vs' : List Value} (h : LTo R us vs) (k : LTo R us' vs') : VTo R (.func f us.toArray us'.toArray) (.func f vs.toArray vs'.toArray) := fun ρ σ v' hr q => by
  obtain ⟨a', b', rfl, h1, h2⟩ := func_inv hf q
  have h3 := (h.rel hr h1).arrs
  have h4 := (k.rel hr h2).arrs
  have := VRel.func (ρ := σ) f vs.toArray a'.toList.toArray vs'.toArray b'.toList.toArray (notY_ne hf) h3.1 h3.2 h4.1 h4.2
  rwa [Array.toArray_toList, Array.toArray_toList] at this
/-- A block told anew, in its place. -/
def BTo (R : Ren → Ren → Prop) : ABlk → ABlk → Prop
  | _, .dead => True
  | .cells cs sz wr sp ty, .cells cs' sz' wr' sp' ty' => sz' = sz ∧ wr' = wr ∧ (sp' = false → sp = false) ∧ ty' = ty ∧ LTo R cs cs'
  | .iter s p, .iter s' p' => s' = s ∧ p' = p
  | .map es ck, .map es' ck' => ck' = ck ∧ es.length = es'.length ∧ ∀ (k : Nat) (e e' : MapEntry), es[k]? = some e → es'[k]? = some e' → e'.key = e.key ∧ e'.born = e.born ∧ VTo R e.val e'.val
  | _, _ => False
theorem BTo.cells {cs cs' : List Value} {sz : Nat} {wr sp sp' : Bool} {ty : TypeId} (hs : sp' = false → sp = false) (h : LTo R cs cs') : BTo R (.cells cs sz wr sp ty) (.cells cs' sz wr sp' ty) := ⟨rfl, rfl, hs, rfl, h⟩
theorem BTo.live {x y : ABlk} (h : BTo R x y) (hy : y.live = true) : x.live = true := by
  cases x <;> cases y <;> first | rfl | (exact h.elim) | (cases hy; done)
theorem BTo.nf [Keeps R] {cs : List Value} {sz : Nat} {wr sp : Bool} {ty : TypeId} (h : ∀ v ∈ cs, NF v) : BTo R (.cells cs sz wr sp ty) (.cells cs sz wr sp ty) := ⟨rfl, rfl, fun e => e, rfl, .nf h⟩
/-- A place with the right to write or without it. -/
def Loc.may (l : Loc) (b : Bool) : Loc := { l with wr := b && l.wr }
theorem BRel.to {ρ σ : Ren} (hr : R ρ σ) {l : Loc} {w : World} : ∀ {x y : ABlk}, y ≠ .free → BTo R x y → BRel ρ l w x → BRel σ l w y
  | _, .dead, _, _, _ => trivial
  | .cells cs sz wr sp ty, .cells cs' sz' wr' sp' ty', _, ⟨e1, e2, e3, e4, e5⟩, ⟨h1, h2, h3, h4, h5, h6, c, e, fr, hty, h7, h8, h9, h10⟩ => by
    subst e1; subst e2; subst e4
    have hlen := e5.1
    refine ⟨h1, h2, h3, fun z => h4 (e3 z), by rw [← hlen]; exact h5, h6, c, e, fr, hty, h7, h8, fun k v hk => ?_, h10.1, fun z => h10.2 (e3 z)⟩
    have hj : k < cs.length := by rw [hlen]; exact (List.getElem?_eq_some_iff.mp hk).1
    obtain ⟨v', p, q⟩ := h9 k cs[k] (by simp [hj])
    exact ⟨v', p, e5.2 k cs[k] v (by simp [hj]) hk ρ σ v' hr q⟩
  | .iter s p, .iter s' p', _, ⟨e1, e2⟩, h => by subst e1; subst e2; exact h
  | .map es ck, .map es' ck', _, ⟨e1, e2, e3⟩, ⟨h1, es0, h2, h3, h4⟩ => by
    subst e1
    refine ⟨h1, es0, h2, by rw [h3, e2], fun k e' hk => ?_⟩
    have hj : k < es.length := by rw [e2]; exact (List.getElem?_eq_some_iff.mp hk).1
    obtain ⟨d, p, q, r, t, u⟩ := h4 k es[k] (by simp [hj])
    obtain ⟨g1, g2, g3⟩ := e3 k es[k] e' (by simp [hj]) hk
    exact ⟨d, p, q.trans g1.symm, by rw [g1]; exact r, t.trans g2.symm, g3 ρ σ _ hr u⟩
  | .free, .free, z, _, _ => absurd rfl z
  | .free, .cells .., _, h, _ => h.elim
  | .free, .iter .., _, h, _ => h.elim
  | .free, .map .., _, h, _ => h.elim
  | .dead, .free, _, h, _ => h.elim
  | .dead, .cells .., _, h, _ => h.elim
  | .dead, .iter .., _, h, _ => h.elim
  | .dead, .map .., _, h, _ => h.elim
  | .cells .., .free, _, h, _ => h.elim
  | .cells .., .iter .., _, h, _ => h.elim
  | .cells .., .map .., _, h, _ => h.elim
  | .iter .., .free, _, h, _ => h.elim
  | .iter .., .cells .., _, h, _ => h.elim
  | .iter .., .map .., _, h, _ => h.elim
  | .map .., .free, _, h, _ => h.elim
  | .map .., .cells .., _, h, _ => h.elim
  | .map .., .iter .., _, h, _ => h.elim
end

/-! ### other names -/
abbrev Nm := List (Nat × Nat)
/-- The name p.1 is p.2 now. -/
def NmR (m : Nm) (ρ σ : Ren) : Prop := (∀ (b : Nat) (a : Array Value), ρ.im b = some a → σ.im b = some a) ∧
  ∀ p ∈ m, ∀ l, ρ p.1 = some l → ∃ l', σ p.2 = some l' ∧ l'.blk = l.blk ∧ l'.off = l.off ∧ l'.n = l.n ∧ l'.ext = l.ext ∧ l'.sz = l.sz
instance (m : Nm) : Keeps (NmR m) := ⟨fun h => h.1⟩
theorem VTo.ptr {m : Nm} {a b o : Nat} (h : (a, b) ∈ m) : VTo (NmR m) (.pointer (some ⟨a, o, none⟩)) (.pointer (some ⟨b, o, none⟩)) := fun ρ σ v' hr q => by
  cases q with
  | ptr _ _ l hl =>
    obtain ⟨l', g, g1, g2, g3, g4, g5⟩ := hr.2 _ h l hl
    rw [← g1, ← g2]; exact .ptr b o l' g
theorem VTo.slice {m : Nm} {a b o n c : Nat} (h : (a, b) ∈ m) : VTo (NmR m) (.slice (some ⟨a, o, none⟩) n c) (.slice (some ⟨b, o, none⟩) n c) := fun ρ σ v' hr q => by
  cases q with
  | slice _ _ _ _ l c' hl h1 h2 h3 h4 =>
    obtain ⟨l', g, g1, g2, g3, g4, g5⟩ := hr.2 _ h l hl
    rw [← g5, ← g3] at h2 h3 h4
    rw [← g4] at h3
    rw [← g1, ← g2]; exact .slice b o n c l' c' g h1 h2 h3 h4
  | slice0 _ _ l x hl =>
    obtain ⟨l', g, g1, g2, g3, g4, g5⟩ := hr.2 _ h l hl
    rw [← g1]; exact .slice0 b o l' x g
theorem VTo.map {m : Nm} {a b : Nat} (h : (a, b) ∈ m) : VTo (NmR m) (.map (some a)) (.map (some b)) := fun ρ σ v' hr q => by
  cases q with
  | map _ l hl =>
    obtain ⟨l', g, g1, _⟩ := hr.2 _ h l hl
    rw [← g1]; exact .map b l' g
/-- A slice told as empty: of nothing or of something. -/
theorem VTo.empty0 {R : Ren → Ren → Prop} {a o c : Nat} (cs : List Value) : VTo R (.slice (some ⟨a, o, none⟩) 0 c) (LV cs 0) := fun ρ σ v' hr q => by
  cases q with
  | slice _ _ _ _ l c' hl h1 h2 h3 h4 => exact .lst0 _ _ _
  | slice0 _ _ l x hl => exact .lst0 _ _ _
theorem VTo.emptyN {R : Ren → Ren → Prop} {c : Nat} (cs : List Value) : VTo R (.slice none 0 c) (LV cs 0) := fun ρ σ v' hr q => by
  cases q with
  | sliceN _ _ => exact .lst0 _ _ _

/-! ### blocks that no one writes any more -/
def FzR (k : Nat) (cs : List Value) (sz : Nat) (ρ σ : Ren) : Prop := σ = ρ ∧ ∀ l, ρ k = some l → l.n = cs.length ∧ l.sz = sz ∧ ∃ arr : Array Value, ρ.im l.blk = some arr ∧ l.off + cs.length ≤ arr.size ∧
  ∀ (j : Nat) (u u' : Value), cs[j]? = some u → arr[l.off + j]? = some u' → VRel ρ u u'
instance (k : Nat) (cs : List Value) (sz : Nat) : Keeps (FzR k cs sz) := ⟨fun h b a e => by rw [h.1]; exact e⟩
theorem VTo.same {k : Nat} {cs : List Value} {sz : Nat} (v : Value) : VTo (FzR k cs sz) v v := fun ρ σ v' hr q => by rw [hr.1]; exact q
theorem LTo.same {k : Nat} {cs : List Value} {sz : Nat} (us : List Value) : LTo (FzR k cs sz) us us := ⟨rfl, fun j u v p q => by rw [p] at q; cases q; exact .same u⟩
theorem BTo.same {k : Nat} {cs : List Value} {sz : Nat} : ∀ {b : ABlk}, b ≠ .free → BTo (FzR k cs sz) b b
  | .free, h => absurd rfl h
  | .dead, _ => trivial
  | .cells .., _ => ⟨rfl, rfl, id, rfl, .same _⟩
  | .iter .., _ => ⟨rfl, rfl⟩
  | .map .., _ => ⟨rfl, rfl, fun j e e' p q => by rw [p] at q; cases q; exact ⟨rfl, rfl, .same _⟩⟩
/-- A slice of the block k is a list now. -/
theorem VTo.fz {k : Nat} {cs : List Value} {sz : Nat} {o n c : Nat} (h : o + n * sz ≤ cs.length) : VTo (FzR k cs sz) (.slice (some ⟨k, o, none⟩) n c) (LV ((cs.drop o).take (n * sz)) n) := fun ρ σ v' hr q => by
  obtain ⟨rfl, hf⟩ := hr
  cases q with
  | slice0 _ _ l x hl => exact .lst0 _ _ _
  | slice _ _ _ _ l c' hl h1 h2 h3 h4 =>
    obtain ⟨g1, g2, arr, g3, g4, g5⟩ := hf l hl
    refine .lstL g3 (by simp only [List.length_take, List.length_drop]; omega) ?_ fun j u u' p r => ?_
    · by_cases z : o + c * l.sz = l.n
      · have := (h3 z).1; omega
      · rw [h4 z]; exact h1
    · rw [List.getElem?_take] at p
      split at p
      · rw [List.getElem?_drop] at p
        exact g5 _ u u' p (by rw [← Nat.add_assoc]; exact r)
      · cases p
theorem VTo.fzp {k : Nat} {cs : List Value} {sz : Nat} {o : Nat} : VTo (FzR k cs sz) (.pointer (some ⟨k, o, none⟩)) (LP cs o) := fun ρ σ v' hr q => by
  obtain ⟨rfl, hf⟩ := hr
  cases q with
  | ptr _ _ l hl =>
    obtain ⟨g1, g2, arr, g3, g4, g5⟩ := hf l hl
    exact .lptrL g3 g4 g5
end Go.Den
namespace Go.Den
open Go Go.RowKit

/-! ### steps that tell the machine anew -/
/-- The blocks js (old numbers), under the numbers 0, 1, ..; the others are forgotten. -/
def pick (js : List Nat) (ρ : Ren) : Ren := ⟨fun k => match js[k]? with
  | some i => ρ i
  | none => none, ρ.im⟩
theorem pick_some {js : List Nat} {ρ : Ren} {k : Nat} {l : Loc} (h : pick js ρ k = some l) : ∃ i, js[k]? = some i ∧ ρ i = some l := by
  change (match js[k]? with | some i => ρ i | none => none) = some l at h
  split at h
  · rename_i i hi; exact ⟨i, hi, h⟩
  · cases h
theorem pick_of {js : List Nat} {ρ : Ren} {k i : Nat} {l : Loc} (h : js[k]? = some i) (hi : ρ i = some l) : pick js ρ k = some l := by
  show (match js[k]? with | some i => ρ i | none => none) = some l
  rw [h]; exact hi
def nmsF : Nat → List Nat → Nm
  | _, [] => []
  | k, i :: r => (i, k) :: nmsF (k + 1) r
theorem nmsF_mem : ∀ {js : List Nat} {k0 : Nat} {p : Nat × Nat}, p ∈ nmsF k0 js → ∃ k, js[k]? = some p.1 ∧ p.2 = k0 + k
  | [], k0, p, h => by cases h
  | i :: r, k0, p, h => by
    rcases List.mem_cons.mp h with rfl | h
    · exact ⟨0, rfl, rfl⟩
    · obtain ⟨k, h1, h2⟩ := nmsF_mem h
      exact ⟨k + 1, by simpa using h1, by omega⟩
/-- All are different. -/
def distinct : List Nat → Bool
  | [] => true
  | i :: r => (r.all fun j => !Nat.beq i j) && distinct r
theorem distinct_inj : ∀ {js : List Nat}, distinct js = true → ∀ k j i : Nat, js[k]? = some i → js[j]? = some i → k = j
  | [], _, k, j, i, h, _ => by cases h
  | a :: r, h, k, j, i, hk, hj => by
    simp only [distinct, Bool.and_eq_true, List.all_eq_true] at h
    cases k with
    | zero =>
      cases j with
      | zero => rfl
      | succ j =>
        cases hk
        have := h.1 _ (List.mem_of_getElem? (show r[j]? = some a by simpa using hj))
        simp at this
    | succ k =>
      cases j with
      | zero =>
        cases hj
        have := h.1 _ (List.mem_of_getElem? (show r[k]? = some a by simpa using hk))
        simp at this
      | succ j => rw [distinct_inj h.2 k j i (by simpa using hk) (by simpa using hj)]
/-- Block by block: the old one of that number, told anew. -/
def BsTo (R : Ren → Ren → Prop) (h : AHeap) : List Nat → AHeap → Prop
  | [], [] => True
  | i :: r, y :: s => (∃ x, h[i]? = some x ∧ BTo R x y ∧ y ≠ .free) ∧ BsTo R h r s
  | _, _ => False
theorem BsTo.at {R : Ren → Ren → Prop} {h : AHeap} : ∀ {js : List Nat} {h' : AHeap}, BsTo R h js h' → js.length = h'.length ∧ ∀ (k : Nat) (y : ABlk), h'[k]? = some y → ∃ i x, js[k]? = some i ∧ h[i]? = some x ∧ BTo R x y ∧ y ≠ .free
  | [], [], _ => ⟨rfl, fun k y q => by cases q⟩
  | i :: r, y :: s, q => by
    obtain ⟨⟨x, h1, h2, h3⟩, q⟩ := q
    obtain ⟨g1, g2⟩ := BsTo.at q
    refine ⟨by simp [g1], fun k z hz => ?_⟩
    cases k with
    | zero => cases hz; exact ⟨i, x, rfl, h1, h2, h3⟩
    | succ k =>
      obtain ⟨i', x', e1, e2⟩ := g2 k z (by simpa using hz)
      exact ⟨i', x', by simpa using e1, e2⟩
  | [], _ :: _, q => q.elim
  | _ :: _, [], q => q.elim
def prefix_ : Nat → Nat → List Nat → Bool
  | 0, _, _ => true
  | M + 1, k, i :: r => Nat.beq i k && prefix_ M (k + 1) r
  | _ + 1, _, [] => false
theorem prefix_at : ∀ {M k0 : Nat} {js : List Nat}, prefix_ M k0 js = true → ∀ k, k < M → js[k]? = some (k0 + k)
  | 0, _, _, _, k, hk => by omega
  | M + 1, k0, i :: r, h, k, hk => by
    simp only [prefix_, Bool.and_eq_true] at h
    cases k with
    | zero => simp [Nat.eq_of_beq_eq_true h.1]
    | succ k =>
      have := prefix_at h.2 k (by omega)
      rw [List.getElem?_cons_succ, this]; congr 1; omega
  | M + 1, k0, [], h, k, hk => by cases h
theorem RT.ren {W0 : World} {M : Nat} {us us' : List Value} {h h' : AHeap} (js : List Nat) (hd : distinct js = true) (hM : prefix_ M 0 js = true) (hb : BsTo (NmR (nmsF 0 js)) h js h') (hu : LTo (NmR (nmsF 0 js)) us us') : RT W0 M us h us' h' := by
  intro ρ w ds hR hL
  obtain ⟨hlen, hb⟩ := hb.at
  have inj := distinct_inj hd
  have hr : NmR (nmsF 0 js) ρ (pick js ρ) := ⟨fun _ _ z => z, fun p hp l hl => by
    obtain ⟨k, h1, h2⟩ := nmsF_mem hp
    rw [Nat.zero_add] at h2
    rw [h2]
    exact ⟨l, pick_of h1 hl, rfl, rfl, rfl, rfl, rfl⟩⟩
  refine ⟨pick js ρ, ⟨?_, ?_, ?_, hR.low, ?_, ?_, ?_, hR.imm, ?_⟩, hu.rel hr hL, ?_⟩
  · intro k l y hk hy
    obtain ⟨i, e1, hi⟩ := pick_some hk
    obtain ⟨i', x, e2, hx, hxy, hfr⟩ := hb k y hy
    rw [e1] at e2; cases e2
    exact BRel.to hr hfr hxy (hR.blk i l x hi hx)
  · intro k l hk
    obtain ⟨i, e1, hi⟩ := pick_some hk
    rw [← hlen]; exact (List.getElem?_eq_some_iff.mp e1).1
  · intro k j l m b c hk hj hne hkb hbl hjc hcl hw
    obtain ⟨i, e1, hi⟩ := pick_some hk
    obtain ⟨i', e1', hi'⟩ := pick_some hj
    obtain ⟨i2, x, e2, hx, hxy, _⟩ := hb k b hkb
    obtain ⟨i2', x', e2', hx', hxy', _⟩ := hb j c hjc
    rw [e1] at e2; cases e2
    rw [e1'] at e2'; cases e2'
    exact hR.sep i i' l m x x' hi hi' (fun z => hne (inj k j i e1 (z ▸ e1'))) hx (hxy.live hbl) hx' (hxy'.live hcl) hw
  · intro k l hk hw
    obtain ⟨i, e1, hi⟩ := pick_some hk; exact hR.high i l hi hw
  · intro k l hk
    obtain ⟨i, e1, hi⟩ := pick_some hk; exact hR.room i l hi
  · intro k y hy hyl
    obtain ⟨i, x, e2, hx, hxy, _⟩ := hb k y hy
    obtain ⟨l, hl⟩ := hR.tot i x hx (hxy.live hyl)
    exact ⟨l, pick_of e2 hl⟩
  · intro k l y hk hy hyl hw
    obtain ⟨i, e1, hi⟩ := pick_some hk
    obtain ⟨i', x, e2, hx, hxy, _⟩ := hb k y hy
    rw [e1] at e2; cases e2
    exact hR.isep i l x hi hx (hxy.live hyl) hw
  · refine ⟨fun i l hi hl => pick_of (by have := prefix_at hM i hi; rwa [Nat.zero_add] at this) hl, fun _ _ z => z, fun k l hk hw => ?_, Nat.le_refl _, fun _ _ _ => rfl, rfl, rfl, rfl, fun _ _ z => .inl z⟩
    obtain ⟨i, e1, hi⟩ := pick_some hk
    exact .inl ⟨i, l, hi, hw, rfl⟩
/-- A block that no one will write any more. -/
theorem RT.freeze {W0 : World} {M : Nat} {us us' : List Value} {h h' : AHeap} (k : Nat) {cs : List Value} {sz : Nat} {sp : Bool} {ty : TypeId} (hk : h[k]? = some (.cells cs sz true sp ty)) (hu : LTo (FzR k cs sz) us us')
    (hlen : h'.length = h.length) (hb : ∀ (i : Nat) (y : ABlk), h'[i]? = some y → (i = k → y = .dead) ∧ (h[i]? = some y ∨ ∃ x, h[i]? = some x ∧ BTo (FzR k cs sz) x y ∧ y ≠ .free)) : RT W0 M us h us' h' := by
  intro ρ w ds hR hL
  obtain ⟨l, hl⟩ := hR.tot k _ hk rfl
  have hB := hR.blk k l _ hl hk
  obtain ⟨b1, b2, b3, b4, b5, b6, arr, e, fr, hty, b7, b8, b9, b10⟩ := hB
  have hnone := hR.isep k l _ hl hk rfl b3.symm
  let ρ' : Ren := ⟨ρ.nm, fun b => if b = l.blk then some arr else ρ.im b⟩
  have hs : Sub ρ ρ' := ⟨fun _ _ z => z, fun b a z => by
    show (if b = l.blk then some arr else ρ.im b) = some a
    by_cases q : b = l.blk
    · subst q; rw [hnone] at z; cases z
    · rw [if_neg q]; exact z⟩
  have him : ∀ (b : Nat) (a : Array Value), ρ'.im b = some a → (b = l.blk ∧ a = arr) ∨ ρ.im b = some a := fun b a z => by
    change (if b = l.blk then some arr else ρ.im b) = some a at z
    by_cases q : b = l.blk
    · rw [if_pos q] at z; cases z; exact .inl ⟨q, rfl⟩
    · rw [if_neg q] at z; exact .inr z
  have hr : FzR k cs sz ρ' ρ' := ⟨rfl, fun l' hl' => by
    have : l' = l := by
      have z : ρ k = some l' := hl'
      rw [hl] at z; exact (Option.some.inj z).symm
    subst this
    refine ⟨b5.symm, b1.symm, arr, by show (if l'.blk = l'.blk then some arr else _) = _; simp, by omega, fun j u u' p q => ?_⟩
    obtain ⟨v', p1, p2⟩ := b9 j u p
    rw [p1] at q; cases q
    exact p2.mono hs⟩
  have old : ∀ {i : Nat} {y : ABlk}, h'[i]? = some y → y.live = true → i ≠ k ∧ ∃ x, h[i]? = some x ∧ x.live = true := fun {i y} hy hyl => by
    obtain ⟨q1, q2⟩ := hb i y hy
    refine ⟨(fun z => by rw [q1 z] at hyl; cases hyl), ?_⟩
    rcases q2 with q2 | ⟨x, q2, q3, _⟩
    · exact ⟨y, q2, hyl⟩
    · exact ⟨x, q2, q3.live hyl⟩
  refine ⟨ρ', ⟨?_, ?_, ?_, hR.low, hR.high, hR.room, ?_, ?_, ?_⟩, hu.rel hr ⟨hL.1, fun j u u' p q => (hL.2 j u u' p q).mono hs⟩, ?_⟩
  · intro i m y hi hy
    obtain ⟨q1, q2⟩ := hb i y hy
    rcases q2 with q2 | ⟨x, q2, q3, q4⟩
    · exact (hR.blk i m y hi q2).mono hs rfl
    · exact BRel.to hr q4 q3 ((hR.blk i m x hi q2).mono hs rfl)
  · intro i m hi; rw [hlen]; exact hR.dom i m hi
  · intro i j m n b c hi hj hne hb' hbl hc hcl hw
    obtain ⟨_, x, hx, hxl⟩ := old hb' hbl
    obtain ⟨_, z, hz, hzl⟩ := old hc hcl
    exact hR.sep i j m n x z hi hj hne hx hxl hz hzl hw
  · intro i y hy hyl
    obtain ⟨_, x, hx, hxl⟩ := old hy hyl
    exact hR.tot i x hx hxl
  · intro b a z
    rcases him b a z with ⟨rfl, rfl⟩ | z
    · exact ⟨e, fr, b7⟩
    · exact hR.imm b a z
  · intro i m y hi hy hyl hw
    obtain ⟨hne, x, hx, hxl⟩ := old hy hyl
    have h1 := hR.isep i m x hi hx hxl hw
    have h2 := hR.sep i k m l x _ hi hl hne hx hxl hk rfl hw
    cases q : ρ'.im m.blk with
    | none => rfl
    | some a =>
      rcases him _ _ q with ⟨z, _⟩ | z
      · exact absurd z h2
      · rw [h1] at z; cases z
  · refine ⟨fun _ _ _ z => z, hs.im, fun i m hi hw => .inl ⟨i, m, hi, hw, rfl⟩, Nat.le_refl _, fun _ _ _ => rfl, rfl, rfl, rfl, fun b a z => ?_⟩
    rcases him b a z with ⟨rfl, rfl⟩ | z
    · exact .inr (.inr ⟨k, l, hl, b3.symm, rfl⟩)
    · exact .inl z
/-- Nothing of the memory is needed any more. -/
theorem RT.drop {W0 : World} {us us' : List Value} {h : AHeap} (n : ∀ v ∈ us', NF v) (e : us = us') : RT W0 0 us h us' [] :=
  .ren [] rfl rfl trivial (.eq n e)
/-- An answer in one block that is written no more. -/
theorem RT.fz {W0 : World} {us us' : List Value} {h : AHeap} (k : Nat) {cs : List Value} {sz : Nat} {sp : Bool} {ty : TypeId} (hk : h[k]? = some (.cells cs sz true sp ty)) (n : ∀ v ∈ us', NF v) (hu : LTo (FzR k cs sz) us us') : RT W0 0 us h us' [] := by
  refine .trans (.freeze k hk hu (h' := h.set k .dead) (by simp) fun i y hy => ?_) (.drop n rfl)
  by_cases e : k = i
  · subst e
    rw [List.getElem?_set_self (List.getElem?_eq_some_iff.mp hk).1] at hy; cases hy
    exact ⟨fun _ => rfl, .inr ⟨_, hk, trivial, fun z => by cases z⟩⟩
  · rw [List.getElem?_set_ne e] at hy
    exact ⟨fun z => absurd z.symm e, .inl hy⟩
/-- One block is written no more; the rest stays as it is. -/
theorem RT.fz1 {W0 : World} {M : Nat} {us us' : List Value} {h : AHeap} (k : Nat) {cs : List Value} {sz : Nat} {sp : Bool} {ty : TypeId} (hk : h[k]? = some (.cells cs sz true sp ty)) (hu : LTo (FzR k cs sz) us us') : RT W0 M us h us' (h.set k .dead) := by
  refine .freeze k hk hu (by simp) fun i y hy => ?_
  by_cases e : k = i
  · subst e
    rw [List.getElem?_set_self (List.getElem?_eq_some_iff.mp hk).1] at hy; cases hy
    exact ⟨fun _ => rfl, .inr ⟨_, hk, trivial, fun z => by cases z⟩⟩
  · rw [List.getElem?_set_ne e] at hy
    exact ⟨fun z => absurd z.symm e, .inl hy⟩
end Go.Den
namespace Go.Den
open Go Go.RowKit

/-! ### calls told over the few blocks at which they look, set into any memory -/
/-- A call's whole effect, in any memory (new blocks from nid on). -/
structure EffC (C : Ctx) (g : FuncId) (args : List Value) (nid : Nat) (f : Eff) : Prop where
  enters : Enters C.P g
  wr : ∀ p ∈ f.wr, ∃ b, (p.1, b) ∈ f.rd
  run : ∀ (ρ : Ren) (h : AHeap) (w : World) (args' : List Value), Rel C.W0 ρ h w → LRel ρ args args' → (∀ p ∈ f.rd, h[p.1]? = some p.2) → (∀ p ∈ alAt nid f.al, h[p.1]? = some .free) →
    Calls C.P g args'.toArray w fun en w' => ∃ v' σ, en = .returned v' ∧ (∀ u, f.v = some u → VRel σ u v') ∧ Ext ρ w σ w' ∧ Rel C.W0 σ (hset (hset h f.wr) (alAt nid f.al)) w'
/-- All that is looked at lies there. -/
def rdOk (h : AHeap) : List (Nat × ABlk) → Prop
  | [] => True
  | (i, b) :: r => h[i]? = some b ∧ rdOk h r
theorem rdOk_mem {h : AHeap} : ∀ {l : List (Nat × ABlk)}, rdOk h l → ∀ p ∈ l, h[p.1]? = some p.2
  | (i, b) :: r, ⟨h1, h2⟩, p, hp => by
    rcases List.mem_cons.mp hp with rfl | hp
    · exact h1
    · exact rdOk_mem h2 p hp
section
variable {C : Ctx}
theorem EffC.call {g : FuncId} {args : List Value} {h : AHeap} {v : Value} {rd wr : List (Nat × ABlk)} {al : List ABlk} (q : EffC C g args h.length ⟨some v, rd, wr, al⟩) (hrd : rdOk h rd) {K E : KV} (hk : K v (applyE h ⟨some v, rd, wr, al⟩)) : CallP C g args h K E := by
  refine ⟨q.enters, fun ρ w args' hR hL => ?_⟩
  have hrd := rdOk_mem hrd
  have hwr : ∀ p ∈ wr, p.1 < h.length := fun p hp => by
    obtain ⟨b, hb⟩ := q.wr p hp
    exact (List.getElem?_eq_some_iff.mp (hrd _ hb)).1
  refine (q.run ρ _ w args' (rel_free hR al.length) hL (fun p hp => ?_) (fun p hp => ?_)).mono fun en w' z => ?_
  · have := hrd p hp
    rw [List.getElem?_append_left (List.getElem?_eq_some_iff.mp this).1]; exact this
  · obtain ⟨h1, h2⟩ := alAt_mem hp
    have h2' : p.1 < h.length + al.length := h2
    rw [List.getElem?_append_right h1, List.getElem?_replicate, if_pos (by omega)]
  · obtain ⟨v', σ, rfl, hv, hE, hR'⟩ := z
    refine ⟨σ, v, _, hE, ?_, hv v rfl, hk⟩
    rw [applyE_eq, ← hset_alAt]
    rw [hset_append _ _ _ hwr, ← hset_length wr h] at hR'
    exact hR'
theorem PureF.eff {g : FuncId} {args : List Value} {v : Value} (p : PureF C g args v) (nid : Nat) : EffC C g args nid ⟨some v, [], [], []⟩ :=
  ⟨p.2.2.enters, (fun p hp => by cases hp), fun ρ h w args' hR hL _ _ => (p.run hR hL).mono fun en w' q => by
    obtain ⟨v', σ, rfl, h1, h2, h3⟩ := q
    exact ⟨v', σ, rfl, fun u hu => by cases hu; exact h1, h2, h3⟩⟩
end

/-- A block that a call looks at: the caller's number, is it handed in to be written, what it is for the caller, what for the called, what it is for the caller behind the call. -/
structure FE where
  i : Nat
  own : Bool
  x : ABlk
  y : ABlk
  z : ABlk
def emv (fr : List FE) (ρ : Ren) : Ren := ⟨fun k => match fr[k]? with
  | some e => (ρ e.i).map fun (l : Loc) => l.may e.own
  | none => none, ρ.im⟩
theorem emv_some {fr : List FE} {ρ : Ren} {k : Nat} {l : Loc} (h : emv fr ρ k = some l) : ∃ e l0, fr[k]? = some e ∧ ρ e.i = some l0 ∧ l = l0.may e.own := by
  change (match fr[k]? with | some e => (ρ e.i).map fun (l : Loc) => l.may e.own | none => none) = some l at h
  split at h
  · rename_i e he
    cases hq : ρ e.i with
    | none => rw [hq] at h; cases h
    | some l0 => rw [hq] at h; cases h; exact ⟨e, l0, he, hq, rfl⟩
  · cases h
theorem emv_of {fr : List FE} {ρ : Ren} {k : Nat} {e : FE} {l0 : Loc} (h : fr[k]? = some e) (hi : ρ e.i = some l0) : emv fr ρ k = some (l0.may e.own) := by
  show (match fr[k]? with | some e => (ρ e.i).map fun (l : Loc) => l.may e.own | none => none) = _
  rw [h]; simp only; rw [hi]; rfl
def fwd : Nat → List FE → Nm
  | _, [] => []
  | k, e :: r => (e.i, k) :: fwd (k + 1) r
def bwd : Nat → List FE → Nm
  | _, [] => []
  | k, e :: r => (k, e.i) :: bwd (k + 1) r
def bwdN : Nat → Nat → Nat → Nm
  | _, _, 0 => []
  | k, nid, n + 1 => (k, nid) :: bwdN (k + 1) (nid + 1) n
theorem fwd_mem : ∀ {fr : List FE} {k0 : Nat} {p : Nat × Nat}, p ∈ fwd k0 fr → ∃ (k : Nat) (e : FE), fr[k]? = some e ∧ p.1 = e.i ∧ p.2 = k0 + k
  | [], k0, p, h => by cases h
  | e :: r, k0, p, h => by
    rcases List.mem_cons.mp h with rfl | h
    · exact ⟨0, e, rfl, rfl, rfl⟩
    · obtain ⟨k, e', h1, h2, h3⟩ := fwd_mem h
      exact ⟨k + 1, e', by simpa using h1, h2, by omega⟩
theorem bwd_mem : ∀ {fr : List FE} {k0 : Nat} {p : Nat × Nat}, p ∈ bwd k0 fr → ∃ (k : Nat) (e : FE), fr[k]? = some e ∧ p.2 = e.i ∧ p.1 = k0 + k
  | [], k0, p, h => by cases h
  | e :: r, k0, p, h => by
    rcases List.mem_cons.mp h with rfl | h
    · exact ⟨0, e, rfl, rfl, rfl⟩
    · obtain ⟨k, e', h1, h2, h3⟩ := bwd_mem h
      exact ⟨k + 1, e', by simpa using h1, h2, by omega⟩
theorem bwdN_mem : ∀ {n k0 nid : Nat} {p : Nat × Nat}, p ∈ bwdN k0 nid n → ∃ j, j < n ∧ p.1 = k0 + j ∧ p.2 = nid + j
  | 0, k0, nid, p, h => by cases h
  | n + 1, k0, nid, p, h => by
    rcases List.mem_cons.mp h with rfl | h
    · exact ⟨0, by omega, rfl, rfl⟩
    · obtain ⟨j, h1, h2, h3⟩ := bwdN_mem h
      exact ⟨j + 1, by omega, by omega, by omega⟩
/-- What the caller's block is for the called. -/
def BView (R : Ren → Ren → Prop) (own : Bool) : ABlk → ABlk → Prop
  | .cells cs sz wr sp ty, .cells cs' sz' wr' sp' ty' => sz' = sz ∧ wr' = (own && wr) ∧ (sp' = false → sp = false) ∧ ty' = ty ∧ LTo R cs cs'
  | .iter s p, y => own = true ∧ y = .iter s p
  | .map es ck, .map es' ck' => own = true ∧ BTo R (.map es ck) (.map es' ck')
  | _, _ => False
theorem BView.own {R : Ren → Ren → Prop} : ∀ {x y : ABlk}, x.live = true → y ≠ .dead → BTo R x y → BView R true x y
  | .cells .., .cells .., _, _, ⟨a, b, c⟩ => ⟨a, by rw [b]; simp, c⟩
  | .iter .., .iter .., _, _, ⟨a, b⟩ => ⟨rfl, by rw [a, b]⟩
  | .map .., .map .., _, _, h => ⟨rfl, h⟩
  | _, .dead, _, h, _ => absurd rfl h
  | .free, _, h, _, _ => by cases h
  | .dead, _, h, _, _ => by cases h
  | .cells .., .free, _, _, h => h.elim
  | .cells .., .iter .., _, _, h => h.elim
  | .cells .., .map .., _, _, h => h.elim
  | .iter .., .free, _, _, h => h.elim
  | .iter .., .cells .., _, _, h => h.elim
  | .iter .., .map .., _, _, h => h.elim
  | .map .., .free, _, _, h => h.elim
  | .map .., .cells .., _, _, h => h.elim
  | .map .., .iter .., _, _, h => h.elim
theorem BView.ro {R : Ren → Ren → Prop} {cs cs' : List Value} {sz : Nat} {wr sp sp' : Bool} {ty : TypeId} (hs : sp' = false → sp = false) (h : LTo R cs cs') : BView R false (.cells cs sz wr sp ty) (.cells cs' sz false sp' ty) := ⟨rfl, rfl, hs, rfl, h⟩
theorem BView.live {R : Ren → Ren → Prop} {own : Bool} : ∀ {x y : ABlk}, BView R own x y → x.live = true ∧ y.live = true
  | .cells .., .cells .., _ => ⟨rfl, rfl⟩
  | .iter .., _, ⟨_, h⟩ => ⟨rfl, by rw [h]; rfl⟩
  | .map .., .map .., _ => ⟨rfl, rfl⟩
  | .free, _, h => by cases h
  | .dead, _, h => by cases h
  | .cells .., .free, h => h.elim
  | .cells .., .dead, h => h.elim
  | .cells .., .iter .., h => h.elim
  | .cells .., .map .., h => h.elim
  | .map .., .free, h => h.elim
  | .map .., .dead, h => h.elim
  | .map .., .cells .., h => h.elim
  | .map .., .iter .., h => h.elim
theorem BRel.view {R : Ren → Ren → Prop} {ρ σ : Ren} (hr : R ρ σ) {l : Loc} {w : World} {own : Bool} : ∀ {x y : ABlk}, BView R own x y → BRel ρ l w x → BRel σ (l.may own) w y
  | .cells cs sz wr sp ty, .cells cs' sz' wr' sp' ty', ⟨e1, e2, e3, e4, e5⟩, ⟨h1, h2, h3, h4, h5, h6, c, e, fr, hty, h7, h8, h9, h10⟩ => by
    subst e1; subst e2; subst e4
    have hlen := e5.1
    refine ⟨h1, h2, by rw [h3]; rfl, fun z => h4 (e3 z), by rw [← hlen]; exact h5, h6, c, e, fr, hty, h7, h8, fun k v hk => ?_, fun z => h10.1 (by simp only [Bool.and_eq_true] at z; exact z.2), fun z => h10.2 (e3 z)⟩
    have hj : k < cs.length := by rw [hlen]; exact (List.getElem?_eq_some_iff.mp hk).1
    obtain ⟨v', p, q⟩ := h9 k cs[k] (by simp [hj])
    exact ⟨v', p, e5.2 k cs[k] v (by simp [hj]) hk ρ σ v' hr q⟩
  | .iter s p, y, ⟨e1, e2⟩, h => by
    subst e1; subst e2
    have : l.may true = l := by unfold Loc.may; simp
    rw [this]; exact h
  | .map es ck, .map es' ck', ⟨e1, e2⟩, h => by
    subst e1
    have : l.may true = l := by unfold Loc.may; simp
    rw [this]; exact BRel.to hr (fun z => by cases z) e2 h
/-- Blocks that are one's own. -/
def ABlk.mine : ABlk → Bool
  | .cells _ _ wr _ _ => wr
  | .free => false
  | _ => true
theorem BRel.mine {ρ : Ren} {l : Loc} {w : World} : ∀ {b : ABlk}, b.live = true → b.mine = true → BRel ρ l w b → l.wr = true
  | .cells _ _ wr _ _, _, h, ⟨_, _, h3, _⟩ => by rw [← h3]; exact h
  | .iter _ _, _, _, ⟨h, _⟩ => h
  | .map _ _, _, _, ⟨h, _⟩ => h
  | .free, h, _, _ => by cases h
  | .dead, h, _, _ => by cases h
/-- The blocks of the frame behind the call. -/
def FrBack (R : Ren → Ren → Prop) : List FE → AHeap → Prop
  | [], _ => True
  | e :: r, y :: s => (e.own = true → BTo R y e.z ∧ e.z ≠ .free) ∧ FrBack R r s
  | _ :: _, [] => False
theorem FrBack.at {R : Ren → Ren → Prop} : ∀ {fr : List FE} {post : AHeap}, FrBack R fr post → ∀ (k : Nat) (e : FE), fr[k]? = some e → e.own = true → ∃ y, post[k]? = some y ∧ BTo R y e.z ∧ e.z ≠ .free
  | [], _, _, k, e, h, _ => by cases h
  | a :: r, y :: s, ⟨h1, h2⟩, k, e, h, ho => by
    cases k with
    | zero => cases h; exact ⟨y, rfl, h1 ho⟩
    | succ k => obtain ⟨z, p, q⟩ := h2.at k e (by simpa using h) ho; exact ⟨z, by simpa using p, q⟩
  | _ :: _, [], h, _, _, _, _ => h.elim
/-- The new blocks. -/
def NwBack (R : Ren → Ren → Prop) : AHeap → List ABlk → Prop
  | [], [] => True
  | y :: s, b :: r => (BTo R y b ∧ y.mine = true ∧ b ≠ .free) ∧ NwBack R s r
  | _, _ => False
theorem NwBack.at {R : Ren → Ren → Prop} : ∀ {s al : List ABlk}, NwBack R s al → s.length = al.length ∧ ∀ (j : Nat) (b : ABlk), al[j]? = some b → ∃ y, s[j]? = some y ∧ BTo R y b ∧ y.mine = true ∧ b ≠ .free
  | [], [], _ => ⟨rfl, fun j b h => by cases h⟩
  | y :: s, b :: r, ⟨h1, h2⟩ => by
    obtain ⟨g1, g2⟩ := h2.at
    refine ⟨by simp [g1], fun j c h => ?_⟩
    cases j with
    | zero => cases h; exact ⟨y, rfl, h1⟩
    | succ j => obtain ⟨z, p, q⟩ := g2 j c (by simpa using h); exact ⟨z, by simpa using p, q⟩
  | [], _ :: _, h => h.elim
  | _ :: _, [], h => h.elim
/-- A block that is handed in to be written is handed in once. -/
def ownOk : List FE → Prop
  | [] => True
  | e :: r => (∀ e' ∈ r, (e.own = true ∨ e'.own = true) → e.i ≠ e'.i) ∧ ownOk r
theorem ownOk_at : ∀ {fr : List FE}, ownOk fr → ∀ (k j : Nat) (e e' : FE), fr[k]? = some e → fr[j]? = some e' → e.own = true → e.i = e'.i → k = j
  | [], _, k, j, e, e', h, _, _, _ => by cases h
  | a :: r, ⟨h1, h2⟩, k, j, e, e', hk, hj, ho, hi => by
    cases k with
    | zero =>
      cases j with
      | zero => rfl
      | succ j =>
        cases hk
        exact absurd hi (h1 e' (List.mem_of_getElem? (show r[j]? = some e' by simpa using hj)) (.inl ho))
    | succ k =>
      cases j with
      | zero =>
        cases hj
        exact absurd hi.symm (h1 e (List.mem_of_getElem? (show r[k]? = some e by simpa using hk)) (.inr ho))
      | succ j => rw [ownOk_at h2 k j e e' (by simpa using hk) (by simpa using hj) ho hi]
def FrView (R : Ren → Ren → Prop) : List FE → Prop
  | [] => True
  | e :: r => BView R e.own e.x e.y ∧ FrView R r
theorem FrView.at {R : Ren → Ren → Prop} : ∀ {fr : List FE}, FrView R fr → ∀ e ∈ fr, BView R e.own e.x e.y
  | a :: r, ⟨h1, h2⟩, e, he => by
    rcases List.mem_cons.mp he with rfl | he
    · exact h1
    · exact h2.at e he
abbrev frY (fr : List FE) : AHeap := fr.map (·.y)
abbrev frRd (fr : List FE) : List (Nat × ABlk) := fr.map fun e => (e.i, e.x)
def frWr : List FE → List (Nat × ABlk)
  | [] => []
  | e :: r => match e.own with
    | true => (e.i, e.z) :: frWr r
    | false => frWr r
theorem frWr_mem : ∀ {fr : List FE} {p : Nat × ABlk}, p ∈ frWr fr → ∃ (k : Nat) (e : FE), fr[k]? = some e ∧ e.own = true ∧ p = (e.i, e.z)
  | e :: r, p, h => by
    unfold frWr at h
    split at h
    · rename_i ho
      rcases List.mem_cons.mp h with rfl | h
      · exact ⟨0, e, rfl, ho, rfl⟩
      · obtain ⟨k, e', h1, h2⟩ := frWr_mem h; exact ⟨k + 1, e', by simpa using h1, h2⟩
    · obtain ⟨k, e', h1, h2⟩ := frWr_mem h; exact ⟨k + 1, e', by simpa using h1, h2⟩
theorem frWr_of : ∀ {fr : List FE} {e : FE}, e ∈ fr → e.own = true → (e.i, e.z) ∈ frWr fr
  | a :: r, e, h, ho => by
    unfold frWr
    rcases List.mem_cons.mp h with rfl | h
    · rw [ho]; exact List.mem_cons_self ..
    · have := frWr_of h ho
      split
      · exact List.mem_cons_of_mem _ this
      · exact this
theorem alAt_get : ∀ {al : List ABlk} {n : Nat} {p : Nat × ABlk}, p ∈ alAt n al → ∃ j, j < al.length ∧ p.1 = n + j ∧ al[j]? = some p.2
  | b :: r, n, p, h => by
    rcases List.mem_cons.mp h with rfl | h
    · exact ⟨0, by simp, rfl, rfl⟩
    · obtain ⟨j, h1, h2, h3⟩ := alAt_get h
      exact ⟨j + 1, by simp; omega, by omega, by simpa using h3⟩
theorem alAt_of : ∀ {al : List ABlk} {n j : Nat} {b : ABlk}, al[j]? = some b → (n + j, b) ∈ alAt n al
  | a :: r, n, 0, b, h => by cases h; exact List.mem_cons_self ..
  | a :: r, n, j + 1, b, h => by
    have := alAt_of (n := n + 1) (j := j) (b := b) (al := r) (by simpa using h)
    rw [show n + 1 + j = n + (j + 1) by omega] at this
    exact List.mem_cons_of_mem _ this
section
variable {C : Ctx}
theorem EffC.of {g : FuncId} {args args0 : List Value} {v0 v : Value} {post al : AHeap} {nid : Nat} (fr : List FE)
    (p : CallP C g args0 (frY fr) (fun u h1 => RT C.W0 fr.length [u] h1 [v0] post) (fun _ _ => False))
    (hown : ownOk fr) (hview : FrView (NmR (fwd 0 fr)) fr) (hargs : LTo (NmR (fwd 0 fr)) args args0)
    (hback : FrBack (NmR (bwd 0 fr ++ bwdN fr.length nid al.length)) fr post) (hnew : NwBack (NmR (bwd 0 fr ++ bwdN fr.length nid al.length)) (post.drop fr.length) al)
    (hv : VTo (NmR (bwd 0 fr ++ bwdN fr.length nid al.length)) v0 v) : EffC C g args nid ⟨some v, frRd fr, frWr fr, al⟩ := by
  have own1 := ownOk_at hown
  have hview := hview.at
  have hback := hback.at
  obtain ⟨hnl, hnew⟩ := hnew.at
  refine ⟨p.enters, fun q hq => ?_, fun ρ h w args' hR hL hrd hfree => ?_⟩
  · obtain ⟨k, e, h1, h2, rfl⟩ := frWr_mem hq
    exact ⟨e.x, List.mem_map.mpr ⟨e, List.mem_of_getElem? h1, rfl⟩⟩
  have hfx : ∀ e ∈ fr, h[e.i]? = some e.x := fun e he => hrd (e.i, e.x) (List.mem_map.mpr ⟨e, he, rfl⟩)
  have hlive : ∀ e ∈ fr, e.x.live = true := fun e he => (hview e he).live.1
  have hloc : ∀ e ∈ fr, ∃ l, ρ e.i = some l := fun e he => hR.tot e.i e.x (hfx e he) (hlive e he)
  have hfr : ∀ j, j < al.length → h[nid + j]? = some .free := fun j hj => hfree (nid + j, al[j]) (alAt_of (by simp [hj]))
  have hfn : ∀ j, j < al.length → ρ (nid + j) = none := fun j hj => hR.none_of_free (hfr j hj)
  have hrf : NmR (fwd 0 fr) ρ (emv fr ρ) := ⟨fun _ _ z => z, fun q hq l hl => by
    obtain ⟨k, e, h1, h2, h3⟩ := fwd_mem hq
    rw [h2] at hl
    rw [h3, Nat.zero_add]
    exact ⟨_, emv_of h1 hl, rfl, rfl, rfl, rfl, rfl⟩⟩
  have hY : ∀ {k : Nat} {b : ABlk}, (frY fr)[k]? = some b → ∃ e, fr[k]? = some e ∧ b = e.y := fun {k b} q => by
    rw [List.getElem?_map] at q
    cases z : fr[k]? with
    | none => rw [z] at q; cases q
    | some e => rw [z] at q; cases q; exact ⟨e, rfl, rfl⟩
  -- what the called sees
  have hR1 : Rel C.W0 (emv fr ρ) (frY fr) w := by
    refine ⟨fun k l b hk hb => ?_, fun k l hk => ?_, fun k j l m b c hk hj hne hb hbl hc hcl hw => ?_, hR.low, fun k l hk hw => ?_, fun k l hk => ?_, fun k b hb hbl => ?_, hR.imm, fun k l b hk hb hbl hw => ?_⟩
    · obtain ⟨e, l0, h1, h2, rfl⟩ := emv_some hk
      obtain ⟨e', h1', rfl⟩ := hY hb
      rw [h1] at h1'; cases h1'
      exact BRel.view hrf (hview e (List.mem_of_getElem? h1)) (hR.blk e.i l0 e.x h2 (hfx e (List.mem_of_getElem? h1)))
    · obtain ⟨e, l0, h1, h2, rfl⟩ := emv_some hk
      rw [List.length_map]; exact (List.getElem?_eq_some_iff.mp h1).1
    · obtain ⟨e, l0, h1, h2, rfl⟩ := emv_some hk
      obtain ⟨e', l0', h1', h2', rfl⟩ := emv_some hj
      simp only [Loc.may, Bool.and_eq_true] at hw
      exact hR.sep e.i e'.i l0 l0' e.x e'.x h2 h2' (fun z => hne (own1 k j e e' h1 h1' hw.1 z)) (hfx e (List.mem_of_getElem? h1)) (hlive e (List.mem_of_getElem? h1)) (hfx e' (List.mem_of_getElem? h1')) (hlive e' (List.mem_of_getElem? h1')) hw.2
    · obtain ⟨e, l0, h1, h2, rfl⟩ := emv_some hk
      simp only [Loc.may, Bool.and_eq_true] at hw
      exact hR.high e.i l0 h2 hw.2
    · obtain ⟨e, l0, h1, h2, rfl⟩ := emv_some hk
      exact hR.room e.i l0 h2
    · obtain ⟨e, h1, rfl⟩ := hY hb
      obtain ⟨l0, hl0⟩ := hloc e (List.mem_of_getElem? h1)
      exact ⟨_, emv_of h1 hl0⟩
    · obtain ⟨e, l0, h1, h2, rfl⟩ := emv_some hk
      simp only [Loc.may, Bool.and_eq_true] at hw
      exact hR.isep e.i l0 e.x h2 (hfx e (List.mem_of_getElem? h1)) (hlive e (List.mem_of_getElem? h1)) hw.2
  refine (p.calls _ w _ hR1 (hargs.rel hrf hL)).mono fun en w' q => ?_
  cases en with
  | panicked ch => obtain ⟨_, _, _, _, _, _, _, _, z⟩ := q; exact z.elim
  | outgrown => exact q.elim
  | returned v' =>
  obtain ⟨ρ1, u, h1, hE1, hR1', hV1, hT⟩ := q
  obtain ⟨ρ2, hR2, hL2, hE2⟩ := hT ρ1 w' [v'] hR1' (.cons hV1 (.nil ρ1))
  have hE := (hE1.toN fr.length).trans hE2
  have hV2 : VRel ρ2 v0 v' := hL2.2 0 _ _ rfl rfl
  clear hT hR1' hV1 hE1 hE2 hL2 hL
  let σ : Ren := ⟨fun i => match ρ i with
    | some l => some l
    | none => bif Nat.ble nid i && Nat.blt i (nid + al.length) then ρ2 (fr.length + (i - nid)) else none, ρ2.im⟩
  have hkeep : ∀ {k : Nat} {e : FE} {l0 : Loc}, fr[k]? = some e → ρ e.i = some l0 → ρ2 k = some (l0.may e.own) := fun {k e l0} a b =>
    hE.sub k _ (List.getElem?_eq_some_iff.mp a).1 (emv_of a b)
  have sOld : ∀ {i : Nat} {l : Loc}, ρ i = some l → σ i = some l := fun {i l} a => by
    show (match ρ i with | some l => some l | none => _) = _
    rw [a]
  have sNew : ∀ {j : Nat}, j < al.length → σ (nid + j) = ρ2 (fr.length + j) := fun {j} a => by
    show (match ρ (nid + j) with | some l => some l | none => _) = _
    rw [hfn j a]
    have : (Nat.ble nid (nid + j) && Nat.blt (nid + j) (nid + al.length)) = true := by
      simp only [Bool.and_eq_true]; exact ⟨Nat.ble_eq_true_of_le (by omega), Nat.ble_eq_true_of_le (by omega)⟩
    simp only [this, cond_true, Nat.add_sub_cancel_left]
  have sInv : ∀ {i : Nat} {l : Loc}, σ i = some l → ρ i = some l ∨ ∃ j, j < al.length ∧ i = nid + j ∧ ρ i = none ∧ ρ2 (fr.length + j) = some l := fun {i l} a => by
    change (match ρ i with | some l => some l | none => bif Nat.ble nid i && Nat.blt i (nid + al.length) then ρ2 (fr.length + (i - nid)) else none) = some l at a
    split at a
    · rename_i l' hl'; cases a; exact .inl hl'
    · rename_i hn
      cases hb : (Nat.ble nid i && Nat.blt i (nid + al.length)) with
      | false => rw [hb] at a; cases a
      | true =>
        rw [hb] at a
        simp only [Bool.and_eq_true] at hb
        have b1 := Nat.le_of_ble_eq_true hb.1
        have b2 : i + 1 ≤ nid + al.length := Nat.le_of_ble_eq_true hb.2
        exact .inr ⟨i - nid, by omega, by omega, hn, a⟩
  have hsub : Sub ρ σ := ⟨fun i l a => sOld a, hE.im⟩
  have hrb : NmR (bwd 0 fr ++ bwdN fr.length nid al.length) ρ2 σ := ⟨fun _ _ z => z, fun q hq l hl => by
    rcases List.mem_append.mp hq with hq | hq
    · obtain ⟨k, e, a1, a2, a3⟩ := bwd_mem hq
      obtain ⟨l0, hl0⟩ := hloc e (List.mem_of_getElem? a1)
      rw [a3, Nat.zero_add, hkeep a1 hl0] at hl
      rw [a2]
      cases hl
      exact ⟨l0, sOld hl0, rfl, rfl, rfl, rfl, rfl⟩
    · obtain ⟨j, a1, a2, a3⟩ := bwdN_mem hq
      rw [a2] at hl
      rw [a3, sNew a1]
      exact ⟨l, hl, rfl, rfl, rfl, rfl, rfl⟩⟩
  have hlen : (hset (hset h (frWr fr)) (alAt nid al)).length = h.length := by rw [hset_length, hset_length]
  have hget : ∀ {i : Nat} {b : ABlk}, (hset (hset h (frWr fr)) (alAt nid al))[i]? = some b →
      (∃ j, j < al.length ∧ i = nid + j ∧ al[j]? = some b) ∨ (∃ (k : Nat) (e : FE), fr[k]? = some e ∧ e.own = true ∧ i = e.i ∧ b = e.z) ∨
      (h[i]? = some b ∧ (∀ j, j < al.length → i ≠ nid + j) ∧ ∀ e ∈ fr, e.own = true → e.i ≠ i) := fun {i b} q => by
    have hi : i < h.length := by rw [← hlen]; exact (List.getElem?_eq_some_iff.mp q).1
    rw [hset_get _ _ _ (by rw [hset_length]; exact hi)] at q
    cases z : lk (alAt nid al) i with
    | some c =>
      rw [z] at q; cases q
      obtain ⟨j, a1, a2, a3⟩ := alAt_get (lk_mem z)
      exact .inl ⟨j, a1, a2, a3⟩
    | none =>
      rw [z] at q
      have hnal : ∀ j, j < al.length → i ≠ nid + j := fun j hj e => lk_none z _ (alAt_of (n := nid) (j := j) (b := al[j]) (by simp [hj])) e.symm
      simp only at q
      rw [hset_get _ _ _ hi] at q
      cases z2 : lk (frWr fr) i with
      | some c =>
        rw [z2] at q; cases q
        obtain ⟨k, e, a1, a2, a3⟩ := frWr_mem (lk_mem z2)
        injection a3 with a3 a4
        exact .inr (.inl ⟨k, e, a1, a2, a3, a4⟩)
      | none =>
        rw [z2] at q
        exact .inr (.inr ⟨q, hnal, fun e he ho hi' => lk_none z2 _ (frWr_of he ho) hi'⟩)
  -- what was live before
  have wasLive : ∀ {i : Nat} {l : Loc} {b : ABlk}, ρ i = some l → (hset (hset h (frWr fr)) (alAt nid al))[i]? = some b → b.live = true → ∃ b', h[i]? = some b' ∧ b'.live = true := fun {i l b} a q hb => by
    rcases hget q with ⟨j, b1, b2, b3⟩ | ⟨k, e, b1, b2, b3, b4⟩ | ⟨b1, _⟩
    · rw [b2, hfn j b1] at a; cases a
    · rw [b3]; exact ⟨e.x, hfx e (List.mem_of_getElem? b1), hlive e (List.mem_of_getElem? b1)⟩
    · exact ⟨b, b1, hb⟩
  -- new blocks are nobody else's
  have newSep : ∀ {j i : Nat} {l m : Loc} {y c : ABlk}, post[fr.length + j]? = some y → y.live = true → ρ2 (fr.length + j) = some l → l.wr = true → ρ i = some m → (hset (hset h (frWr fr)) (alAt nid al))[i]? = some c → c.live = true → l.blk ≠ m.blk := by
    intro j i l m y c hy hyl hl hlw hm hc hcl
    rcases hE.own _ l hl hlw with ⟨k, m0, hk, hmw, hb⟩ | hsz
    · obtain ⟨e, l0, a1, a2, rfl⟩ := emv_some hk
      simp only [Loc.may, Bool.and_eq_true] at hmw
      have hb' : l0.blk = l.blk := hb
      by_cases hei : e.i = i
      · obtain ⟨y', c1, c2, _⟩ := hback k e a1 hmw.1
        have hz : c = e.z := by
          rcases hget hc with ⟨j', b1, b2, b3⟩ | ⟨k', e', b1, b2, b3, b4⟩ | ⟨_, _, b3⟩
          · rw [b2, hfn j' b1] at hm; cases hm
          · have hkk := own1 k k' e e' a1 b1 hmw.1 (hei.trans b3)
            subst hkk
            rw [a1] at b1; cases b1
            exact b4
          · exact absurd hei (b3 e (List.mem_of_getElem? a1) hmw.1)
        have hyl' : y'.live = true := c2.live (by rw [← hz]; exact hcl)
        have := hR2.sep (fr.length + j) k l (l0.may e.own) y y' hl (hkeep a1 a2) (by have := (List.getElem?_eq_some_iff.mp a1).1; omega) hy hyl c1 hyl' hlw
        exact absurd hb'.symm this
      · obtain ⟨c', d1, d2⟩ := wasLive hm hc hcl
        have := hR.sep e.i i l0 m e.x c' a2 hm hei (hfx e (List.mem_of_getElem? a1)) (hlive e (List.mem_of_getElem? a1)) d1 d2 hmw.2
        rw [← hb']; exact this
    · have := hR.room i m hm
      omega
  refine ⟨v', σ, rfl, fun u hu => by cases hu; exact hv ρ2 σ v' hrb hV2, ⟨hsub, ?_, hE.size, ?_, hE.os, hE.tape, hE.output, ?_⟩, ⟨?_, ?_, ?_, hR2.low, ?_, ?_, ?_, hR2.imm, ?_⟩⟩
  · intro i l hi hw
    rcases sInv hi with hi | ⟨j, _, _, _, hj⟩
    · exact .inl ⟨i, l, hi, hw, rfl⟩
    · rcases hE.own _ l hj hw with ⟨k, m0, hk, hmw, hb⟩ | hsz
      · obtain ⟨e, l0, a1, a2, rfl⟩ := emv_some hk
        simp only [Loc.may, Bool.and_eq_true] at hmw
        exact .inl ⟨e.i, l0, a2, hmw.2, hb⟩
      · exact .inr hsz
  · intro b hb hn
    refine hE.keep b hb fun k m hk hmw => ?_
    obtain ⟨e, l0, a1, a2, rfl⟩ := emv_some hk
    simp only [Loc.may, Bool.and_eq_true] at hmw
    exact hn e.i l0 a2 hmw.2
  · intro b a z
    rcases hE.iown b a z with q | q | ⟨k, m, hk, hmw, hb⟩
    · exact .inl q
    · exact .inr (.inl q)
    · obtain ⟨e, l0, a1, a2, rfl⟩ := emv_some hk
      simp only [Loc.may, Bool.and_eq_true] at hmw
      exact .inr (.inr ⟨e.i, l0, a2, hmw.2, hb⟩)
  · -- blk
    intro i l b hi hb
    rcases hget hb with ⟨j, b1, b2, b3⟩ | ⟨k, e, b1, b2, b3, b4⟩ | ⟨b1, b2, b3⟩
    · obtain ⟨y, c1, c2, c3, c4⟩ := hnew j b b3
      rw [List.getElem?_drop] at c1
      have hl : ρ2 (fr.length + j) = some l := by rw [b2, sNew b1] at hi; exact hi
      exact BRel.to hrb c4 c2 (hR2.blk _ l y hl c1)
    · subst b3; subst b4
      obtain ⟨l0, hl0⟩ := hloc e (List.mem_of_getElem? b1)
      obtain ⟨y, c1, c2, c3⟩ := hback k e b1 b2
      have hl : l = l0 := by rw [sOld hl0] at hi; exact (Option.some.inj hi).symm
      have h2 := hR2.blk k _ y (hkeep b1 hl0) c1
      have hm : l0.may e.own = l := by rw [b2, hl]; unfold Loc.may; simp
      rw [hm] at h2
      exact BRel.to hrb c3 c2 h2
    · have hi0 : ρ i = some l := by
        rcases sInv hi with q | ⟨j, a1, a2, _⟩
        · exact q
        · exact absurd a2 (b2 j a1)
      have hB := hR.blk i l b hi0 b1
      by_cases hbl : b.live = true
      · refine hB.mono hsub (hE.keep l.blk (hR.room i l hi0) fun k m hk hmw z => ?_)
        obtain ⟨e, l0, a1, a2, rfl⟩ := emv_some hk
        simp only [Loc.may, Bool.and_eq_true] at hmw
        exact hR.sep e.i i l0 l e.x b a2 hi0 (b3 e (List.mem_of_getElem? a1) hmw.1) (hfx e (List.mem_of_getElem? a1)) (hlive e (List.mem_of_getElem? a1)) b1 hbl hmw.2 z
      · cases b with
        | free => exact hB.elim
        | dead => trivial
        | _ => exact absurd rfl hbl
  · intro i l hi
    rw [hlen]
    rcases sInv hi with q | ⟨j, a1, a2, _⟩
    · exact hR.dom i l q
    · rw [a2]; exact (List.getElem?_eq_some_iff.mp (hfr j a1)).1
  · -- sep
    intro i j l m b c hi hj hne hb hbl hc hcl hw
    have newY : ∀ {i j : Nat} {b : ABlk}, j < al.length → i = nid + j → (hset (hset h (frWr fr)) (alAt nid al))[i]? = some b → b.live = true → ∃ y, post[fr.length + j]? = some y ∧ y.live = true ∧ y.mine = true := fun {i j b} a1 a2 q hb => by
      have hb' : al[j]? = some b := by
        rcases hget q with ⟨j', b1, b2, b3⟩ | ⟨k, e, b1, b2, b3, b4⟩ | ⟨b1, b2, _⟩
        · have : j = j' := by omega
          subst this; exact b3
        · exfalso
          obtain ⟨l0, hl0⟩ := hloc e (List.mem_of_getElem? b1)
          rw [← b3, a2, hfn j a1] at hl0; cases hl0
        · exact absurd a2 (b2 j a1)
      obtain ⟨y, c1, c2, c3, c4⟩ := hnew j b hb'
      rw [List.getElem?_drop] at c1
      exact ⟨y, c1, c2.live hb, c3⟩
    rcases sInv hi with hi0 | ⟨i', a1, a2, a3, a4⟩
    · rcases sInv hj with hj0 | ⟨j', d1, d2, d3, d4⟩
      · obtain ⟨b', e1, e2⟩ := wasLive hi0 hb hbl
        obtain ⟨c', e3, e4⟩ := wasLive hj0 hc hcl
        exact hR.sep i j l m b' c' hi0 hj0 hne e1 e2 e3 e4 hw
      · obtain ⟨y, e1, e2, e3⟩ := newY d1 d2 hc hcl
        have hmw := BRel.mine e2 e3 (hR2.blk _ m y d4 e1)
        exact fun z => newSep e1 e2 d4 hmw hi0 hb hbl z.symm
    · obtain ⟨y, e1, e2, e3⟩ := newY a1 a2 hb hbl
      rcases sInv hj with hj0 | ⟨j', d1, d2, d3, d4⟩
      · exact newSep e1 e2 a4 hw hj0 hc hcl
      · obtain ⟨y', f1, f2, f3⟩ := newY d1 d2 hc hcl
        exact hR2.sep _ _ l m y y' a4 d4 (by omega) e1 e2 f1 f2 hw
  · intro i l hi hw
    rcases sInv hi with q | ⟨j, a1, a2, a3, a4⟩
    · exact hR.high i l q hw
    · exact hR2.high _ l a4 hw
  · intro i l hi
    rcases sInv hi with q | ⟨j, a1, a2, a3, a4⟩
    · exact Nat.lt_of_lt_of_le (hR.room i l q) hE.size
    · exact hR2.room _ l a4
  · intro i b hb hbl
    rcases hget hb with ⟨j, b1, b2, b3⟩ | ⟨k, e, b1, b2, b3, b4⟩ | ⟨b1, b2, b3⟩
    · obtain ⟨y, c1, c2, c3, c4⟩ := hnew j b b3
      rw [List.getElem?_drop] at c1
      obtain ⟨l, hl⟩ := hR2.tot _ y c1 (c2.live hbl)
      exact ⟨l, by rw [b2, sNew b1]; exact hl⟩
    · obtain ⟨l0, hl0⟩ := hloc e (List.mem_of_getElem? b1)
      exact ⟨l0, by rw [b3]; exact sOld hl0⟩
    · obtain ⟨l, hl⟩ := hR.tot i b b1 hbl
      exact ⟨l, sOld hl⟩
  · -- isep
    intro i l b hi hb hbl hw
    show ρ2.im l.blk = none
    rcases sInv hi with hi0 | ⟨j, a1, a2, a3, a4⟩
    · obtain ⟨b', e1, e2⟩ := wasLive hi0 hb hbl
      have hn := hR.isep i l b' hi0 e1 e2 hw
      cases z : ρ2.im l.blk with
      | none => rfl
      | some a =>
        rcases hE.iown _ a z with q | q | ⟨k, m, hk, hmw, hmb⟩
        · have q' : ρ.im l.blk = some a := q
          rw [hn] at q'; cases q'
        · have := hR.room i l hi0; omega
        · obtain ⟨e, l0, f1, f2, rfl⟩ := emv_some hk
          simp only [Loc.may, Bool.and_eq_true] at hmw
          have hmb' : l0.blk = l.blk := hmb
          by_cases hei : e.i = i
          · obtain ⟨y', c1, c2, _⟩ := hback k e f1 hmw.1
            have hz : b = e.z := by
              rcases hget hb with ⟨j', b1, b2, b3⟩ | ⟨k', e', b1, b2, b3, b4⟩ | ⟨_, _, b3⟩
              · rw [b2, hfn j' b1] at hi0; cases hi0
              · have hkk := own1 k k' e e' f1 b1 hmw.1 (hei.trans b3)
                subst hkk
                rw [f1] at b1; cases b1
                exact b4
              · exact absurd hei (b3 e (List.mem_of_getElem? f1) hmw.1)
            have hyl' : y'.live = true := c2.live (by rw [← hz]; exact hbl)
            have := hR2.isep k _ y' (hkeep f1 f2) c1 hyl' (by simp [Loc.may, hmw])
            have t : (l0.may e.own).blk = l.blk := hmb'
            rw [t, z] at this; cases this
          · exact absurd hmb' (hR.sep e.i i l0 l e.x b' f2 hi0 hei (hfx e (List.mem_of_getElem? f1)) (hlive e (List.mem_of_getElem? f1)) e1 e2 hmw.2)
    · have hb' : al[j]? = some b := by
        rcases hget hb with ⟨j', b1, b2, b3⟩ | ⟨k, e, b1, b2, b3, b4⟩ | ⟨b1, b2, _⟩
        · have : j = j' := by omega
          subst this; exact b3
        · exfalso
          obtain ⟨l0, hl0⟩ := hloc e (List.mem_of_getElem? b1)
          rw [← b3, a2, hfn j a1] at hl0; cases hl0
        · exact absurd a2 (b2 j a1)
      obtain ⟨y, c1, c2, c3, c4⟩ := hnew j b hb'
      rw [List.getElem?_drop] at c1
      exact hR2.isep _ l y a4 c1 (c2.live hbl) hw
end
end Go.Den
namespace Go.Den
open Go Go.RowKit

theorem LW_ext {β : Type} {D hit hit' : Nat → Bool} {val val' : Nat → β} {base : β} : ∀ {n : Nat}, (∀ k, k < n → hit k = hit' k) → (∀ k, k < n → val k = val' k) → LW D hit val base n = LW D hit' val' base n
  | 0, _, _ => rfl
  | n + 1, h, g => by
    unfold LW
    rw [h n (by omega), g n (by omega), LW_ext (n := n) (fun k hk => h k (by omega)) (fun k hk => g k (by omega))]
theorem LW_prefix {β : Type} {hit : Nat → Bool} {val : Nat → β} {base : β} {k : Nat} : ∀ {n : Nat}, k ≤ n → LW (fun j => decide (j < k)) hit val base n = LW (fun _ => true) hit val base k
  | 0, h => by
    obtain rfl : k = 0 := by omega
    rfl
  | n + 1, h => by
    by_cases e : k = n + 1
    · subst e
      exact LW_congr fun j hj _ => by simp [hj]
    · have h' : k ≤ n := by omega
      have : LW (fun j => decide (j < k)) hit val base (n + 1) = LW (fun j => decide (j < k)) hit val base n := by
        conv => lhs; unfold LW
        rw [show (decide (n < k) && hit n) = false by simp [Nat.not_lt.mpr h']]
        simp
      rw [this, LW_prefix h']

/-- A call that may stand in such a region. -/
def callD (C : Ctx) (g : FuncId) (args : List Value) (h : AHeap) (K : Eff → Prop) : Prop :=
  (∃ v, PureF C g args v ∧ K (pure1 v)) ∨ (∃ f, EffC C g args h.length f ∧ rdOk h f.rd ∧ K f)
/-- An operation that may stand in such a region. -/
def dK (C : Ctx) (o : Oper) (e : Env) (h : AHeap) (K : Eff → Prop) : Prop :=
  match o.op with
  | .call c => bif isCall C c then (match c.callee with
      | .value f => evK e f fun fv => match evA e c.args.toList with
        | some us => match fv with
          | .func (.func g) first cap => callD C g (first.toList ++ us ++ cap.toList) h K
          | _ => False
        | none => False
      | _ => False)
    else callK C c e h K
  | .panic _ => False
  | _ => opK C o e h K
theorem dK_sound {C : Ctx} (hC : C.Ok) {o : Oper} {e : Env} {h : AHeap} {K : Eff → Prop} (q : dK C o e h K) : ∃ f, Does C.P C.W0 o e h f ∧ K f := by
  unfold dK at q
  split at q
  · rename_i c ho
    cases hic : isCall C c with
    | false =>
      rw [hic] at q
      exact opK_sound hC (by unfold opK; rw [ho]; exact q)
    | true =>
      rw [hic] at q
      simp only [cond_true] at q
      split at q
      · rename_i f hcf
        obtain ⟨fv, hf, q⟩ := evK_ex q
        split at q
        · rename_i us hu
          split at q
          · rename_i g first cap
            have key : ∀ (ρ : Ren) (hh : AHeap) (w : World) (a : Act), Opd ρ e o a → ∃ args' : List Value, LRel ρ (first.toList ++ us ++ cap.toList) args' ∧ (Enters C.P g → (execOp a.eval o).run C.P w = .ok (.enter g args'.toArray) w) := by
              intro ρ hh w a hO
              have mf : f ∈ o.op.operands := by rw [ho]; simp [Op.operands, Call.operands, hcf]
              obtain ⟨first', cap', e1, L1, L2⟩ := func_inv rfl (hO f mf _ hf)
              have hL := evA_rel (ρ := ρ) (a := a) c.args.toList us (fun x hx v hv => hO x (mem_call ho (Array.mem_toList_iff.mp hx)) v hv) hu
              refine ⟨first'.toList ++ c.args.toList.map a.eval ++ cap'.toList, (L1.app hL).app L2, fun hent => ?_⟩
              have hargs : first' ++ c.args.map a.eval ++ cap' = (first'.toList ++ c.args.toList.map a.eval ++ cap'.toList).toArray := by
                apply Array.ext'; simp
              simp only [execOp, ho, resolve, hcf, e1, Deferred.ofValue, Sem.run_bind, Sem.run_pure, Result.andThen_ok, invoke, hargs]
              exact enter_run hent _ w
            have fin : ∀ f : Eff, EffC C g (first.toList ++ us ++ cap.toList) h.length f → (∀ p ∈ f.rd, h[p.1]? = some p.2) → Does C.P C.W0 o e h f := by
              intro f hp hrd
              refine ⟨?_, hrd, hp.wr⟩
              intro ρ hh w a hR hO hrd' hal next Q hn
              obtain ⟨args', hL, hx⟩ := key ρ hh w a hO
              unfold Oper.wp
              rw [hx hp.enters, Oper.upon_enter]
              refine (hp.run ρ hh w args' hR hL hrd' hal).mono fun en w' hp' => ?_
              obtain ⟨v', σ, rfl, p3, p1, p2⟩ := hp'
              exact hn v' σ w' p3 p1 p2
            rcases q with ⟨v, hp, hk⟩ | ⟨f, hp, hrd, hk⟩
            · exact ⟨_, fin _ (hp.eff _) (fun p hp => by cases hp), hk⟩
            · exact ⟨f, fin f hp (rdOk_mem hrd), hk⟩
          · exact q.elim
        · exact q.elim
      · exact q.elim
  · exact q.elim
  · exact opK_sound hC q
noncomputable def wpD (C : Ctx) (N : Nat) (ops : List Oper) (K : Env → AHeap → List LE → Prop) (l : List Oper) : List LE → Env → AHeap → Prop :=
  List.rec (motive := fun _ => List LE → Env → AHeap → Prop) (fun dn e h => K e h dn) (fun o _ ih dn e h => bif dstOk N o.dst then guardK ops o.guard e
      (fun e => dK C o e h fun f => ih (dn ++ [⟨true, f.v, f.rd, f.wr, f.al, h.length⟩]) (e.putR o.dst f.v) (applyE h f))
      (fun e => ih (dn ++ [⟨false, some undefV, [], [], [], 0⟩]) (e.putR o.dst (some undefV)) h)
    else False) l
theorem wpD_cons {C : Ctx} {N : Nat} {ops : List Oper} {K : Env → AHeap → List LE → Prop} {o : Oper} {r : List Oper} {dn : List LE} {e : Env} {h : AHeap} : wpD C N ops K (o :: r) dn e h = (bif dstOk N o.dst then guardK ops o.guard e
      (fun e => dK C o e h fun f => wpD C N ops K r (dn ++ [⟨true, f.v, f.rd, f.wr, f.al, h.length⟩]) (e.putR o.dst f.v) (applyE h f))
      (fun e => wpD C N ops K r (dn ++ [⟨false, some undefV, [], [], [], 0⟩]) (e.putR o.dst (some undefV)) h)
    else False) := rfl
/-- The test of an operation, as the sketch has it. -/
def GIs (ops : List Oper) (o : Oper) (e : Env) (b : Bool) : Prop :=
  (o.guard = none ∧ b = true) ∨ ∃ (j : Nat) (want : Bool) (oj : Oper) (d : Nat), o.guard = some (j, want) ∧ ops[j]? = some oj ∧ oj.dst = some d ∧
    ((∃ x : Bool, e.get d = some (.bool x) ∧ b = (x == want)) ∨ (∃ vs, e.get d = some (.tuple vs) ∧ b = false))
theorem guardK_ex {ops : List Oper} {o : Oper} {e : Env} {y n : Env → Prop} (q : guardK ops o.guard e y n) :
    (∃ e', y e' ∧ (∀ t, e'.get t = e.get t) ∧ GIs ops o e true) ∨ (∃ e', n e' ∧ (∀ t, e'.get t = e.get t) ∧ GIs ops o e false) := by
  unfold guardK at q
  split at q
  · rename_i hg; exact .inl ⟨e, q, fun _ => rfl, .inl ⟨hg, rfl⟩⟩
  · rename_i j want hg
    split at q
    · rename_i oj hj
      split at q
      · rename_i d hdst
        split at q
        · rename_i b hget
          have same : ∀ t, Env.get ((d, some (.bool b)) :: e) t = e.get t := fun t => by
            rw [Env.get_cons]
            by_cases h : d = t
            · subst h; rw [if_pos rfl, hget]
            · rw [if_neg h]
          rcases brP.cases q with ⟨rfl, q⟩ | ⟨rfl, q⟩ <;> cases want
          · exact .inr ⟨_, q, same, .inr ⟨j, _, oj, d, hg, hj, hdst, .inl ⟨_, hget, rfl⟩⟩⟩
          · exact .inl ⟨_, q, same, .inr ⟨j, _, oj, d, hg, hj, hdst, .inl ⟨_, hget, rfl⟩⟩⟩
          · exact .inl ⟨_, q, same, .inr ⟨j, _, oj, d, hg, hj, hdst, .inl ⟨_, hget, rfl⟩⟩⟩
          · exact .inr ⟨_, q, same, .inr ⟨j, _, oj, d, hg, hj, hdst, .inl ⟨_, hget, rfl⟩⟩⟩
        · rename_i vs hget
          exact .inr ⟨e, q, fun _ => rfl, .inr ⟨j, want, oj, d, hg, hj, hdst, .inr ⟨vs, hget, rfl⟩⟩⟩
        · exact q.elim
      · exact q.elim
    · exact q.elim
def hitE (ops : List Oper) (t k : Nat) : Bool := match ops[k]? with
  | some o => (match o.dst with | some d => Nat.beq d t | none => false)
  | none => false
def valE (dn : List LE) (k : Nat) : Option Value := match dn[k]? with
  | some e => e.v
  | none => none
def hitH (dn : List LE) (id k : Nat) : Bool := match dn[k]? with
  | some e => (lk e.put id).isSome
  | none => false
def valH (dn : List LE) (id k : Nat) : Option ABlk := match dn[k]? with
  | some e => lk e.put id
  | none => none
/-- What is known of operation k, by the run in the text's order. -/
structure LOk (C : Ctx) (N : Nat) (ops : List Oper) (e0 : Env) (h0 : AHeap) (dn : List LE) (k : Nat) (o : Oper) (l : LE) : Prop where
  dst : dstOk N o.dst = true
  ex : ∃ (e : Env) (h : AHeap), (∀ t, e.get t = LW (fun _ => true) (hitE ops t) (valE dn) (e0.get t) k) ∧ (∀ id, id < h.length → h[id]? = LW (fun _ => true) (hitH dn id) (valH dn id) h0[id]? k) ∧
    (∀ id, h.length ≤ id → ∀ j, j < k → hitH dn id j = false) ∧ h0.length ≤ h.length ∧
    GIs ops o e l.want ∧ (l.want = true → OpSem C.P C.W0 o e l.rd l.wr (alAt l.nid l.al) l.v ∧ (∀ p ∈ l.rd, h[p.1]? = some p.2) ∧ (∀ p ∈ l.wr, ∃ b, (p.1, b) ∈ l.rd) ∧ l.nid = h.length) ∧
    (l.want = false → l.v = some undefV ∧ l.rd = [] ∧ l.wr = [] ∧ l.al = [])
structure DInv (C : Ctx) (N : Nat) (ops : List Oper) (e0 : Env) (h0 : AHeap) (dn : List LE) (e : Env) (h : AHeap) : Prop where
  env : ∀ t, e.get t = LW (fun _ => true) (hitE ops t) (valE dn) (e0.get t) dn.length
  heap : ∀ id, id < h.length → h[id]? = LW (fun _ => true) (hitH dn id) (valH dn id) h0[id]? dn.length
  fresh : ∀ id, h.length ≤ id → ∀ j, j < dn.length → hitH dn id j = false
  len : h0.length ≤ h.length
  ok : ∀ k o l, k < dn.length → ops[k]? = some o → dn[k]? = some l → LOk C N ops e0 h0 dn k o l
theorem valE_app {dn : List LE} {x : LE} {k : Nat} (h : k < dn.length) : valE (dn ++ [x]) k = valE dn k := by unfold valE; rw [List.getElem?_append_left h]
theorem hitH_app {dn : List LE} {x : LE} {id k : Nat} (h : k < dn.length) : hitH (dn ++ [x]) id k = hitH dn id k := by unfold hitH; rw [List.getElem?_append_left h]
theorem valH_app {dn : List LE} {x : LE} {id k : Nat} (h : k < dn.length) : valH (dn ++ [x]) id k = valH dn id k := by unfold valH; rw [List.getElem?_append_left h]
theorem LOk.app {C : Ctx} {N : Nat} {ops : List Oper} {e0 : Env} {h0 : AHeap} {dn : List LE} {k : Nat} {o : Oper} {l x : LE} (hk : k ≤ dn.length) (q : LOk C N ops e0 h0 dn k o l) : LOk C N ops e0 h0 (dn ++ [x]) k o l := by
  obtain ⟨e, h, p1, p2, p3, p4, p5⟩ := q.ex
  refine ⟨q.dst, e, h, fun t => ?_, fun id hid => ?_, fun id hid j hj => ?_, p4, p5⟩
  · rw [p1 t]; exact LW_ext (fun _ _ => rfl) (fun j hj => (valE_app (by omega)).symm)
  · rw [p2 id hid]; exact LW_ext (fun j hj => (hitH_app (by omega)).symm) (fun j hj => (valH_app (by omega)).symm)
  · rw [hitH_app (by omega)]; exact p3 id hid j hj
theorem applyE_len (h : AHeap) (f : Eff) : (applyE h f).length = h.length + f.al.length := by
  rw [applyE_eq, List.length_append, hset_length]
theorem lk_app : ∀ (l m : List (Nat × ABlk)) (id : Nat), lk (l ++ m) id = match lk m id with | some c => some c | none => lk l id
  | [], m, id => by show lk m id = _; cases lk m id <;> rfl
  | (j, c) :: r, m, id => by
    have h1 : lk ((j, c) :: r ++ m) id = match lk (r ++ m) id with | some d => some d | none => if j = id then some c else none := rfl
    have h2 : lk ((j, c) :: r) id = match lk r id with | some d => some d | none => if j = id then some c else none := rfl
    rw [h1, h2, lk_app r m id]
    cases lk m id <;> rfl
theorem lk_alAt {al : List ABlk} {n id : Nat} : (lk (alAt n al) id = none ∧ (id < n ∨ n + al.length ≤ id)) ∨ ∃ j b, id = n + j ∧ j < al.length ∧ al[j]? = some b ∧ lk (alAt n al) id = some b := by
  cases hq : lk (alAt n al) id with
  | some b =>
    obtain ⟨j, h1, h2, h3⟩ := alAt_get (lk_mem hq)
    exact .inr ⟨j, b, h2, h1, h3, rfl⟩
  | none =>
    refine .inl ⟨rfl, ?_⟩
    rcases Nat.lt_or_ge id n with a | a
    · exact .inl a
    · rcases Nat.lt_or_ge id (n + al.length) with b | b
      · exact absurd (by simp; omega) (lk_none hq (n + (id - n), al[id - n]'(by omega)) (alAt_of (by simp)))
      · exact .inr b
/-- One operation more. -/
theorem DInv.step {C : Ctx} {N : Nat} {ops : List Oper} {e0 : Env} {h0 : AHeap} {dn : List LE} {e e' : Env} {h : AHeap} (I : DInv C N ops e0 h0 dn e h) {o : Oper} (ho : ops[dn.length]? = some o) {l : LE}
    (hl : LOk C N ops e0 h0 dn dn.length o l) (he : ∀ t, e'.get t = e.get t) (h' : AHeap) (hlen : h.length ≤ h'.length) (hh : ∀ id, id < h'.length → h'[id]? = match lk l.put id with | some b => some b | none => h[id]?)
    (hfr : ∀ id, h'.length ≤ id → lk l.put id = none) : DInv C N ops e0 h0 (dn ++ [l]) (e'.putR o.dst l.v) h' := by
  have hn : (dn ++ [l]).length = dn.length + 1 := by simp
  have hat : (dn ++ [l])[dn.length]? = some l := by simp
  refine ⟨fun t => ?_, fun id hid => ?_, fun id hid j hj => ?_, Nat.le_trans I.len hlen, fun k o' l' hk ho' hl' => ?_⟩
  · rw [hn]
    unfold LW
    have hv : valE (dn ++ [l]) dn.length = l.v := by unfold valE; rw [hat]
    have hb : LW (fun _ => true) (hitE ops t) (valE (dn ++ [l])) (e0.get t) dn.length = e'.get t := by
      rw [he t, I.env t]; exact LW_ext (fun _ _ => rfl) (fun j hj => valE_app hj)
    have hE : hitE ops t dn.length = match o.dst with | some d => Nat.beq d t | none => false := by unfold hitE; rw [ho]
    rw [hv, hb, hE]
    cases hd : o.dst with
    | none => simp [Env.putR]
    | some d =>
      show Env.get ((d, l.v) :: e') t = _
      rw [Env.get_cons]
      by_cases q : d = t
      · subst q; simp
      · rw [if_neg q]
        have : Nat.beq d t = false := by
          cases hb : Nat.beq d t with
          | false => rfl
          | true => exact absurd (Nat.eq_of_beq_eq_true hb) q
        simp [this]
  · rw [hn, hh id hid]
    unfold LW
    have h1 : hitH (dn ++ [l]) id dn.length = (lk l.put id).isSome := by unfold hitH; rw [hat]
    have h2 : valH (dn ++ [l]) id dn.length = lk l.put id := by unfold valH; rw [hat]
    rw [h1, h2]
    cases hk : lk l.put id with
    | some b => simp
    | none =>
      simp only [Option.isSome_none, Bool.and_false, Bool.false_eq_true, if_false]
      have hb : LW (fun _ => true) (hitH (dn ++ [l]) id) (valH (dn ++ [l]) id) h0[id]? dn.length = LW (fun _ => true) (hitH dn id) (valH dn id) h0[id]? dn.length :=
        LW_ext (fun j hj => hitH_app hj) (fun j hj => valH_app hj)
      rw [hb]
      rcases Nat.lt_or_ge id h.length with q | q
      · exact I.heap id q
      · have : LW (fun _ => true) (hitH dn id) (valH dn id) h0[id]? dn.length = LW (fun _ => false) (hitH dn id) (valH dn id) h0[id]? dn.length :=
          LW_congr fun j hj hit => by rw [I.fresh id q j hj] at hit; cases hit
        have h0n : h0[id]? = none := List.getElem?_eq_none (Nat.le_trans I.len q)
        have hz : ∀ n, LW (fun _ => false) (hitH dn id) (valH dn id) h0[id]? n = h0[id]? := fun n => by
          induction n with
          | zero => rfl
          | succ n ih => unfold LW; simp [ih]
        rw [this, hz, h0n, List.getElem?_eq_none q]
  · rw [hn] at hj
    rcases Nat.lt_or_ge j dn.length with q | q
    · rw [hitH_app q]; exact I.fresh id (by omega) j q
    · obtain rfl : j = dn.length := by omega
      unfold hitH; rw [hat]
      show (lk l.put id).isSome = false
      rw [hfr id hid]; rfl
  · rw [hn] at hk
    rcases Nat.lt_or_ge k dn.length with q | q
    · rw [List.getElem?_append_left q] at hl'
      exact (I.ok k o' l' q ho' hl').app (by omega)
    · obtain rfl : k = dn.length := by omega
      rw [ho] at ho'; cases ho'
      rw [hat] at hl'; cases hl'
      exact hl.app (Nat.le_refl _)
end Go.Den
namespace Go.Den
open Go Go.RowKit
section
variable {C : Ctx} (hC : C.Ok) {N : Nat} {ops : List Oper} {e0 : Env} {h0 : AHeap}
include hC
theorem wpD_log {K : Env → AHeap → List LE → Prop} : ∀ (r : List Oper) (dn : List LE) (e : Env) (h : AHeap), wpD C N ops K r dn e h → DInv C N ops e0 h0 dn e h → (∀ k, r[k]? = ops[dn.length + k]?) →
    ∃ e' h' dn', K e' h' dn' ∧ DInv C N ops e0 h0 dn' e' h' ∧ dn'.length = dn.length + r.length := by
  intro r
  induction r with
  | nil => intro dn e h q I _; exact ⟨e, h, dn, q, I, by simp⟩
  | cons o r ih =>
    intro dn e h q I hr
    rw [wpD_cons] at q
    have ho : ops[dn.length]? = some o := by have := hr 0; simpa using this.symm
    have hr' : ∀ (x : LE) k, r[k]? = ops[(dn ++ [x]).length + k]? := fun x k => by
      have := hr (k + 1)
      rw [List.getElem?_cons_succ] at this
      rw [this]; congr 1; simp; omega
    cases hd : dstOk N o.dst with
    | false => rw [hd] at q; exact q.elim
    | true =>
      rw [hd] at q
      simp only [cond_true] at q
      rcases guardK_ex q with ⟨e1, q, he, hg⟩ | ⟨e1, q, he, hg⟩
      · obtain ⟨f, D, q⟩ := dK_sound hC q
        have hwr : ∀ p ∈ f.wr, p.1 < h.length := fun p hp => by
          obtain ⟨b, hb⟩ := D.wr p hp
          exact (List.getElem?_eq_some_iff.mp (D.rd _ hb)).1
        have hput : ∀ id, lk (LE.put ⟨true, f.v, f.rd, f.wr, f.al, h.length⟩) id = match lk (alAt h.length f.al) id with | some b => some b | none => lk f.wr id := fun id => by
          rw [LE.put_eq]; exact lk_app _ _ _
        have hlk : ∀ id, h.length ≤ id → lk f.wr id = none := fun id hid => by
          cases hq : lk f.wr id with
          | none => rfl
          | some b => have := hwr _ (lk_mem hq); simp at this; omega
        have L : LOk C N ops e0 h0 dn dn.length o ⟨true, f.v, f.rd, f.wr, f.al, h.length⟩ :=
          ⟨hd, e1, h, (fun t => by rw [he t]; exact I.env t), I.heap, I.fresh, I.len, (by
            rcases hg with ⟨g1, g2⟩ | ⟨j, want, oj, d, g1, g2, g3, g4⟩
            · exact .inl ⟨g1, g2⟩
            · exact .inr ⟨j, want, oj, d, g1, g2, g3, by rw [he d]; exact g4⟩), (fun _ => ⟨D.sem, D.rd, D.wr, rfl⟩), (fun z => by cases z)⟩
        have I' := I.step (e' := e1) ho L he (applyE h f) (by rw [applyE_len]; omega) (fun id hid => by
          rw [hput id, applyE_eq]
          rw [applyE_len] at hid
          rcases lk_alAt (al := f.al) (n := h.length) (id := id) with ⟨g1, g2⟩ | ⟨j, b, g1, g2, g3, g4⟩
          · rw [g1]
            have hid' : id < h.length := by omega
            rw [List.getElem?_append_left (by rw [hset_length]; exact hid')]
            exact hset_get _ _ _ hid'
          · rw [g4, List.getElem?_append_right (by rw [hset_length]; omega), hset_length, g1, Nat.add_sub_cancel_left, g3]) (fun id hid => by
          rw [applyE_len] at hid
          rw [hput id]
          rcases lk_alAt (al := f.al) (n := h.length) (id := id) with ⟨g1, g2⟩ | ⟨j, b, g1, g2, g3, g4⟩
          · rw [g1]; exact hlk id (by omega)
          · omega)
        obtain ⟨e', h', dn', k1, k2, k3⟩ := ih _ _ _ q I' (hr' _)
        exact ⟨e', h', dn', k1, k2, by rw [k3]; simp; omega⟩
      · have L : LOk C N ops e0 h0 dn dn.length o ⟨false, some undefV, [], [], [], 0⟩ :=
          ⟨hd, e1, h, (fun t => by rw [he t]; exact I.env t), I.heap, I.fresh, I.len, (by
            rcases hg with ⟨g1, g2⟩ | ⟨j, want, oj, d, g1, g2, g3, g4⟩
            · exact .inl ⟨g1, g2⟩
            · exact .inr ⟨j, want, oj, d, g1, g2, g3, by rw [he d]; exact g4⟩), (fun z => by cases z), (fun _ => ⟨rfl, rfl, rfl, rfl⟩)⟩
        have I' := I.step (e' := e1) ho L he h (Nat.le_refl _) (fun id hid => by simp [LE.put_eq, alAt, lk]) (fun id hid => by simp [LE.put_eq, alAt, lk])
        obtain ⟨e', h', dn', k1, k2, k3⟩ := ih _ _ _ q I' (hr' _)
        exact ⟨e', h', dn', k1, k2, by rw [k3]; simp; omega⟩
end

/-- Two operations that wait for each other in no order: neither writes what the other reads. -/
def Apart2 (a b : LE) : Prop := (∀ p ∈ a.put, ∀ q ∈ b.rd, p.1 ≠ q.1) ∧ (∀ p ∈ b.wr, ∀ q ∈ a.rd, p.1 ≠ q.1)
def Compat (bm : List Nat) (dn : List LE) : Prop := ∀ i j a b, i < j → dn[i]? = some a → dn[j]? = some b → bef bm i j = false → Apart2 a b

section
variable {C : Ctx} (hC : C.Ok) {N : Nat} {ops : List Oper} {e0 : Env} {h0 : AHeap} {dn : List LE} {ef : Env} {hf : AHeap}
def DS (C : Ctx) (N : Nat) (ops : List Oper) (e0 : Env) (h0 : AHeap) (dn : List LE) (hf : AHeap) (ρ0 : Ren) (w0 : World) (D : Nat → Bool) (a : Act) (w : World) : Prop :=
  ∃ ρ, Ext ρ0 w0 ρ w ∧ Rel C.W0 ρ ((List.range hf.length).map fun id => (LW D (hitH dn id) (valH dn id) (h0[id]?) ops.length).getD .free) w ∧
    (∀ t v, LW D (hitE ops t) (valE dn) (e0.get t) ops.length = some v → ∃ v' : Value, a.tmps[t]? = some v' ∧ VRel ρ v v') ∧ a.tmps.size = N ∧ a.defers = []
/-- Listed: closed under what comes before. -/
def Closed (bm : List Nat) (n : Nat) (D : Nat → Bool) : Prop := ∀ i j, i < n → j < n → bef bm i j = true → D j = true → D i = true
theorem closed_of {bm : List Nat} (hb : befOk ops bm = true) {D : Nat → Bool} (hD : ∀ j o, ops[j]? = some o → D j = true → ∀ e ∈ o.after, Region.binds .any e = true → D e.on = true) :
    ∀ j i o, ops[j]? = some o → bef bm i j = true → i < j → D j = true → D i = true := by
  intro j
  induction j using Nat.strongRecOn with
  | _ j ih =>
    intro i o ho hbe hij hj
    obtain ⟨h1, h2⟩ := befOk_spec hb ho
    obtain ⟨e, he, hbd, hx⟩ := h2 i hij hbe
    have hon := hD j o ho hj e he hbd
    rcases hx with rfl | hx
    · exact hon
    · have hlt := h1 e he hbd
      have hjl : j < ops.length := (List.getElem?_eq_some_iff.mp ho).1
      exact ih e.on hlt i ops[e.on] (by simp) hx (bef_lt hx) hon
/-- What comes up next, and what has come up: of those that an operation must be ordered with, just the ones before it have come up. -/
theorem before_iff {bm : List Nat} (hb : befOk ops bm = true) {D : Nat → Bool} (hD : ∀ j o, ops[j]? = some o → D j = true → ∀ e ∈ o.after, Region.binds .any e = true → D e.on = true)
    {i : Nat} {o : Oper} (ho : ops[i]? = some o) (hi : D i = false) (hr : ∀ e ∈ o.after, Region.binds .any e = true → D e.on = true) {k : Nat} (hk : k < ops.length) (hne : k ≠ i) (hord : bef bm k i = true ∨ bef bm i k = true) :
    D k = decide (k < i) := by
  rcases hord with h | h
  · have hlt := bef_lt h
    rw [decide_eq_true hlt]
    obtain ⟨h1, h2⟩ := befOk_spec hb ho
    obtain ⟨e, he, hbd, hx⟩ := h2 k hlt h
    have hon := hr e he hbd
    rcases hx with rfl | hx
    · exact hon
    · have hon' : e.on < ops.length := Nat.lt_trans (h1 e he hbd) (List.getElem?_eq_some_iff.mp ho).1
      exact closed_of hb hD e.on k ops[e.on] (by simp) hx (bef_lt hx) hon
  · have hlt := bef_lt h
    rw [decide_eq_false (by omega)]
    cases hDk : D k with
    | false => rfl
    | true =>
      have := closed_of hb hD k i ops[k] (by simp) h hlt hDk
      rw [hi] at this; cases this
theorem mem_put {l : LE} {p : Nat × ABlk} (h : p ∈ l.put) : p ∈ l.wr ∨ p ∈ alAt l.nid l.al := by
  rw [LE.put_eq] at h; exact List.mem_append.mp h
theorem LW_false {β : Type} {hit : Nat → Bool} {val : Nat → β} {base : β} : ∀ n, LW (fun _ => false) hit val base n = base
  | 0 => rfl
  | n + 1 => by unfold LW; simp [LW_false n]
theorem LW_none {β : Type} {D hit : Nat → Bool} {val : Nat → β} {base : β} : ∀ {n : Nat}, (∀ k, k < n → hit k = false) → LW D hit val base n = base
  | 0, _ => rfl
  | n + 1, h => by
    unfold LW
    rw [h n (by omega)]
    simp only [Bool.and_false, Bool.false_eq_true, if_false]
    exact LW_none fun k hk => h k (by omega)
theorem range_get {β : Type} (f : Nat → β) (n id : Nat) (h : id < n) : ((List.range n).map f)[id]? = some (f id) := by simp [h]
include hC
/-- One of those that may come up comes up. -/
theorem DS.step (I : DInv C N ops e0 h0 dn ef hf) (hn : dn.length = ops.length) {bm : List Nat} (hb : drawOk ops bm = true) (hcp : Compat bm dn) {ρ0 : Ren} {w0 : World} {D : Nat → Bool}
    (hD : ∀ j o, ops[j]? = some o → D j = true → ∀ e ∈ o.after, Region.binds .any e = true → D e.on = true) {i : Nat} {o : Oper} (ho : ops[i]? = some o) (hi : D i = false) (hr : ∀ e ∈ o.after, Region.binds .any e = true → D e.on = true)
    {a : Act} {w : World} (S : DS C N ops e0 h0 dn hf ρ0 w0 D a w) {next : Act → World → Prop} {Q : Exit → Act → World → Prop}
    (hx : ∀ (a' : Act) (w' : World), DS C N ops e0 h0 dn hf ρ0 w0 (fun k => if k = i then true else D k) a' w' → next a' w') :
    if Region.wanted o (yielded ops.toArray a.tmps) then o.wp C.P a w next Q else next (a.put o.dst undef) w := by
  simp only [drawOk, Bool.and_eq_true] at hb
  have hil : i < ops.length := (List.getElem?_eq_some_iff.mp ho).1
  have hdi : dn[i]? = some dn[i] := by simp
  obtain ⟨hdst, e, h, q1, q2, q3, q4, q5, q6, q7⟩ := I.ok i o dn[i] (by omega) ho hdi
  obtain ⟨ρ, hE, hR, hV, hsz, hdf⟩ := S
  generalize hl : dn[i] = l at *
  -- temporaries that are named read as in the text's order
  have hnames : ∀ t, t ∈ namesT ops o → LW D (hitE ops t) (valE dn) (e0.get t) ops.length = e.get t := by
    intro t ht
    rw [q1 t, ← LW_prefix (Nat.le_of_lt hil)]
    refine LW_congr fun k hk hit => ?_
    by_cases hki : k = i
    · subst hki; rw [hi]; simp
    · refine before_iff hb.1 hD ho hi hr hk hki ?_
      have hok : ops[k]? = some ops[k] := by simp
      unfold hitE at hit
      rw [hok] at hit
      cases hkd : ops[k].dst with
      | none => simp [hkd] at hit
      | some d =>
        simp only [hkd] at hit
        have := Nat.eq_of_beq_eq_true hit
        subst this
        exact apartOk_spec hb.2 hok hkd ho hki ht
  -- blocks that are read, too
  have hrdD : ∀ p ∈ l.rd, ∀ k, k < ops.length → hitH dn p.1 k = true → k ≠ i → D k = decide (k < i) := by
    intro p hp k hk hit hki
    refine before_iff hb.1 hD ho hi hr hk hki ?_
    have hdk : dn[k]? = some dn[k] := List.getElem?_eq_getElem (by omega)
    unfold hitH at hit
    rw [hdk] at hit
    simp only at hit
    obtain ⟨b, hb'⟩ := Option.isSome_iff_exists.mp hit
    have hm := lk_mem hb'
    cases h1 : bef bm k i with
    | true => exact .inl rfl
    | false =>
      cases h2 : bef bm i k with
      | true => exact .inr rfl
      | false =>
        exfalso
        rcases Nat.lt_or_gt_of_ne hki with hlt | hlt
        · exact (hcp k i dn[k] l hlt hdk hdi h1).1 _ hm p hp rfl
        · have hA := hcp i k l dn[k] hlt hdi hdk h2
          rcases mem_put hm with hm | hal
          · exact hA.2 _ hm p hp rfl
          · obtain ⟨_, ek, hk', r1, r2, r3, r4, r5, r6, r7⟩ := I.ok k ops[k] dn[k] (by omega) (by simp) hdk
            have hwk : dn[k].want = true := by
              cases hw : dn[k].want with
              | true => rfl
              | false => have := (r7 hw).2.2.2; rw [this] at hal; cases hal
            have hnk := (r6 hwk).2.2.2
            have hge : dn[k].nid ≤ p.1 := (alAt_mem hal).1
            have hwi : l.want = true := by
              cases hw : l.want with
              | true => rfl
              | false => have := (q7 hw).2.1; rw [this] at hp; cases hp
            have hsome := (q6 hwi).2.1 p hp
            have hlt' : p.1 < h.length := (List.getElem?_eq_some_iff.mp hsome).1
            rw [q2 p.1 hlt', LW_none (fun j hj => r3 p.1 (by rw [← hnk]; exact hge) j (by omega)), List.getElem?_eq_none (by rw [hnk] at hge; exact Nat.le_trans r4 hge)] at hsome
            cases hsome
  have hin : ∀ id, hitH dn id i = true → id < hf.length := fun id hit => by
    rcases Nat.lt_or_ge id hf.length with q | q
    · exact q
    · have := I.fresh id q i (by omega); rw [hit] at this; cases this
  have hiti : ∀ id, hitH dn id i = (lk l.put id).isSome := fun id => by unfold hitH; rw [hdi]
  have hvali : ∀ id, valH dn id i = lk l.put id := fun id => by unfold valH; rw [hdi]
  have hD' : ∀ k, k ≠ i → (if k = i then true else D k) = D k := fun k hk => if_neg hk
  -- the temporaries behind it
  have henv : ∀ (ρ' : Ren) (v' : Value), Sub ρ ρ' → (∀ u, l.v = some u → VRel ρ' u v') → ∀ t v, LW (fun k => if k = i then true else D k) (hitE ops t) (valE dn) (e0.get t) ops.length = some v → ∃ u : Value, (a.put o.dst v').tmps[t]? = some u ∧ VRel ρ' v u := by
    intro ρ' v' hs hv t v ht
    cases hod : o.dst with
    | none =>
      have : hitE ops t i = false := by unfold hitE; rw [ho]; simp [hod]
      rw [LW_miss this hD'] at ht
      obtain ⟨u, p1, p2⟩ := hV t v ht
      exact ⟨u, p1, p2.mono hs⟩
    | some d =>
      by_cases hdt : d = t
      · subst hdt
        have hit : hitE ops d i = true := by unfold hitE; rw [ho]; simp [hod]
        rw [LW_at (i := i) (by simp) hit hil (fun k hk1 hk2 hit2 => ?_)] at ht
        · have hve : valE dn i = l.v := by unfold valE; rw [hdi]
          rw [hve] at ht
          have hdN : d < a.tmps.size := by rw [hsz]; rw [hod] at hdst; exact Nat.le_of_ble_eq_true (show Nat.ble (d + 1) N = true from hdst)
          exact ⟨v', by show (a.tmps.setIfInBounds d v')[d]? = _; simp [hdN], hv v ht⟩
        · have hok : ops[k]? = some ops[k] := by simp
          have hkd : ops[k].dst = some d := by
            unfold hitE at hit2
            rw [hok] at hit2
            cases hq : ops[k].dst with
            | none => simp [hq] at hit2
            | some d2 => simp only [hq] at hit2; rw [Nat.eq_of_beq_eq_true hit2]
          have hmem : d ∈ namesT ops ops[k] := by unfold namesT; rw [hkd]; simp
          have hor := apartOk_spec hb.2 ho hod hok (by omega) hmem
          rw [if_neg (by omega), before_iff hb.1 hD ho hi hr hk2 (by omega) hor.symm]
          exact decide_eq_false (by omega)
      · have : hitE ops t i = false := by
          unfold hitE; rw [ho]; simp only [hod]
          cases hq : Nat.beq d t with
          | false => rfl
          | true => exact absurd (Nat.eq_of_beq_eq_true hq) hdt
        rw [LW_miss this hD'] at ht
        obtain ⟨u, p1, p2⟩ := hV t v ht
        exact ⟨u, by show (a.tmps.setIfInBounds d v')[t]? = _; rw [Array.getElem?_setIfInBounds_ne hdt]; exact p1, p2.mono hs⟩
  have hput : ∀ v' : Value, (a.put o.dst v').tmps.size = N ∧ (a.put o.dst v').defers = [] := fun v' => by
    cases o.dst with
    | none => exact ⟨hsz, hdf⟩
    | some d => exact ⟨by show (a.tmps.setIfInBounds d v').size = N; rw [Array.size_setIfInBounds]; exact hsz, hdf⟩
  -- the test
  have hwant : Region.wanted o (yielded ops.toArray a.tmps) = l.want := by
    rcases q5 with ⟨g1, g2⟩ | ⟨j, want, oj, d, g1, g2, g3, g4⟩
    · rw [g2]; simp [Region.wanted, g1]
    · have hmem : d ∈ namesT ops o := by unfold namesT; rw [g1]; simp [g2, g3]
      have hg2 : ops.toArray[j]? = some oj := by simpa using g2
      have hrd' := hnames d hmem
      rcases g4 with ⟨x, g5, g6⟩ | ⟨vs, g5, g6⟩
      · obtain ⟨u, p1, p2⟩ := hV d _ (hrd'.trans g5)
        have := (AF.bool x).eq p2
        subst this
        rw [g6]
        simp only [Region.wanted, g1, yielded, hg2, Option.bind_some, g3, p1]
        cases x <;> cases want <;> rfl
      · obtain ⟨u, p1, p2⟩ := hV d _ (hrd'.trans g5)
        obtain ⟨ds, rfl, _⟩ := tuple_inv p2
        rw [g6]
        simp only [Region.wanted, g1, yielded, hg2, Option.bind_some, g3, p1]
        rfl
  rw [hwant]
  cases hw : l.want with
  | false =>
    obtain ⟨z1, z2, z3, z4⟩ := q7 hw
    simp only [Bool.false_eq_true, if_false]
    refine hx _ w ⟨ρ, hE, ?_, henv ρ undef (Sub.refl ρ) (fun u hu => by rw [z1] at hu; cases hu; exact (AF.tuple (by intro v hv; simp at hv)).rel ρ), (hput undef).1, (hput undef).2⟩
    have : (List.range hf.length).map (fun id => (LW (fun k => if k = i then true else D k) (hitH dn id) (valH dn id) (h0[id]?) ops.length).getD .free) = (List.range hf.length).map (fun id => (LW D (hitH dn id) (valH dn id) (h0[id]?) ops.length).getD .free) := by
      apply List.map_congr_left
      intro id _
      rw [LW_miss (by rw [hiti, LE.put_eq, z4, z3]; rfl) hD']
    rw [this]; exact hR
  | true =>
    obtain ⟨s1, s2, s3, s4⟩ := q6 hw
    simp only [if_true]
    -- new places are hit by nobody else
    have halp : ∀ p ∈ alAt l.nid l.al, hitH dn p.1 i = true := fun p hp => by
      rw [hiti]
      cases hq : lk l.put p.1 with
      | some b => rfl
      | none => exact absurd rfl (lk_none hq p (by rw [LE.put_eq]; exact List.mem_append.mpr (.inr hp)))
    have hnew : ∀ p ∈ alAt l.nid l.al, ∀ k, k < ops.length → k ≠ i → hitH dn p.1 k = true → D k = false := by
      intro p hp k hk hki hit
      have hge : l.nid ≤ p.1 := (alAt_mem hp).1
      have hdk : dn[k]? = some dn[k] := List.getElem?_eq_getElem (by omega)
      rcases Nat.lt_or_gt_of_ne hki with hlt | hlt
      · have := q3 p.1 (by rw [← s4]; exact hge) k hlt
        rw [hit] at this; cases this
      · obtain ⟨_, ek, hk', r1, r2, r3, r4, r5, r6, r7⟩ := I.ok k ops[k] dn[k] (by omega) (by simp) hdk
        have hii : hitH dn p.1 i = true := halp p hp
        unfold hitH at hit
        rw [hdk] at hit
        simp only at hit
        obtain ⟨b2, hb2⟩ := Option.isSome_iff_exists.mp hit
        have hwk : dn[k].want = true := by
          cases hwq : dn[k].want with
          | true => rfl
          | false =>
            obtain ⟨_, _, t3, t4⟩ := r7 hwq
            have := lk_mem hb2
            rw [LE.put_eq, t4, t3] at this; cases this
        rcases mem_put (lk_mem hb2) with hm | hal'
        · obtain ⟨b3, hb3⟩ := (r6 hwk).2.2.1 _ hm
          cases h2 : bef bm i k with
          | true =>
            rw [before_iff hb.1 hD ho hi hr hk hki (.inr h2)]
            exact decide_eq_false (by omega)
          | false =>
            exfalso
            refine (hcp i k l dn[k] hlt hdi hdk h2).1 p ?_ _ hb3 rfl
            rw [LE.put_eq]; exact List.mem_append.mpr (.inr hp)
        · have hge2 : dn[k].nid ≤ p.1 := (alAt_mem hal').1
          have := r3 p.1 (by rw [← (r6 hwk).2.2.2]; exact hge2) i hlt
          rw [hii] at this; cases this
    have hget : ∀ id, id < hf.length → ((List.range hf.length).map fun id => (LW D (hitH dn id) (valH dn id) (h0[id]?) ops.length).getD .free)[id]? = some ((LW D (hitH dn id) (valH dn id) (h0[id]?) ops.length).getD .free) := fun id hid => range_get _ _ _ hid
    refine s1 ρ _ w a hR ?_ ?_ ?_ next Q ?_
    · intro x hxm v hv
      cases x with
      | tmp t =>
        have hmem : t ∈ namesT ops o := by
          unfold namesT
          refine List.mem_append.mpr (.inl (List.mem_append.mpr (.inl (List.mem_filterMap.mpr ⟨.tmp t, Array.mem_toList_iff.mpr hxm, rfl⟩))))
        obtain ⟨u, p1, p2⟩ := hV t v ((hnames t hmem).trans hv)
        show VRel ρ v (a.tmps.getD t undef)
        rw [Array.getD_eq_getD_getElem?, p1]; exact p2
      | const u =>
        simp only [evO] at hv
        cases hc : cl u with
        | true => rw [hc] at hv; cases hv; exact (cl_af hc).rel ρ
        | false => rw [hc] at hv; cases hv
      | global g => cases hv
      | func f => cases hv; exact (AF.func rfl (by simp) (by simp)).rel ρ
    · intro p hp
      have hsome := s2 p hp
      have hlt : p.1 < h.length := (List.getElem?_eq_some_iff.mp hsome).1
      have hltf : p.1 < hf.length := by
        rcases Nat.lt_or_ge p.1 hf.length with q | q
        · exact q
        · rw [q2 p.1 hlt, LW_none (fun j hj => I.fresh p.1 q j (by omega)), List.getElem?_eq_none (Nat.le_trans I.len q)] at hsome
          cases hsome
      rw [hget _ hltf]
      have : LW D (hitH dn p.1) (valH dn p.1) (h0[p.1]?) ops.length = some p.2 := by
        rw [← hsome, q2 p.1 hlt, ← LW_prefix (Nat.le_of_lt hil)]
        refine LW_congr fun k hk hit => ?_
        by_cases hki : k = i
        · subst hki; rw [hi]; simp
        · exact hrdD p hp k hk hit hki
      rw [this]; rfl
    · intro p hp
      have hii := halp p hp
      rw [hget _ (hin _ hii)]
      have : LW D (hitH dn p.1) (valH dn p.1) (h0[p.1]?) ops.length = none := by
        have e1 : LW D (hitH dn p.1) (valH dn p.1) (h0[p.1]?) ops.length = LW (fun _ => false) (hitH dn p.1) (valH dn p.1) (h0[p.1]?) ops.length :=
          LW_congr fun k hk hit => by
            by_cases hki : k = i
            · subst hki; exact hi
            · exact hnew p hp k hk hki hit
        have hge : l.nid ≤ p.1 := (alAt_mem hp).1
        rw [e1, LW_false, List.getElem?_eq_none (by rw [s4] at hge; exact Nat.le_trans q4 hge)]
      rw [this]; rfl
    · intro v' ρ' w' hv hE' hR'
      refine hx _ w' ⟨ρ', hE.trans hE', ?_, henv ρ' v' hE'.sub hv, (hput v').1, (hput v').2⟩
      have hwl : ∀ p ∈ l.wr, p.1 < ((List.range hf.length).map fun id => (LW D (hitH dn id) (valH dn id) (h0[id]?) ops.length).getD ABlk.free).length := fun p hp => by
        rw [List.length_map, List.length_range]
        refine hin p.1 ?_
        rw [hiti]
        cases hq : lk l.put p.1 with
        | some b => rfl
        | none =>
          exfalso
          refine lk_none hq p ?_ rfl
          rw [LE.put_eq]; exact List.mem_append.mpr (.inl hp)
      have heq : hset (hset ((List.range hf.length).map fun id => (LW D (hitH dn id) (valH dn id) (h0[id]?) ops.length).getD ABlk.free) l.wr) (alAt l.nid l.al) =
          (List.range hf.length).map (fun id => (LW (fun k => if k = i then true else D k) (hitH dn id) (valH dn id) (h0[id]?) ops.length).getD .free) := by
        apply List.ext_getElem?
        intro id
        have hlen : (hset (hset ((List.range hf.length).map fun id => (LW D (hitH dn id) (valH dn id) (h0[id]?) ops.length).getD ABlk.free) l.wr) (alAt l.nid l.al)).length = hf.length := by
          rw [hset_length, hset_length, List.length_map, List.length_range]
        rcases Nat.lt_or_ge id hf.length with hid | hid
        · rw [range_get _ _ _ hid]
          have hL : (hset (hset ((List.range hf.length).map fun id => (LW D (hitH dn id) (valH dn id) (h0[id]?) ops.length).getD ABlk.free) l.wr) (alAt l.nid l.al))[id]? =
              match lk l.put id with | some b => some b | none => some ((LW D (hitH dn id) (valH dn id) (h0[id]?) ops.length).getD .free) := by
            have hb0 := hset_get l.wr ((List.range hf.length).map fun id => (LW D (hitH dn id) (valH dn id) (h0[id]?) ops.length).getD ABlk.free) id (by simpa using hid)
            rw [hget _ hid] at hb0
            rw [hset_get _ _ _ (by rw [hset_length]; simpa using hid), hb0, LE.put_eq, lk_app]
            cases lk (alAt l.nid l.al) id <;> rfl
          rw [hL]
          cases hq : lk l.put id with
          | none => rw [LW_miss (by rw [hiti, hq]; rfl) hD']
          | some b =>
            have hit : hitH dn id i = true := by rw [hiti, hq]; rfl
            have hLW : LW (fun k => if k = i then true else D k) (hitH dn id) (valH dn id) (h0[id]?) ops.length = valH dn id i := by
              refine LW_at (i := i) (by simp) hit hil (fun k hk1 hk2 hit2 => ?_)
              rw [if_neg (by omega)]
              rcases mem_put (lk_mem hq) with hm | hal'
              · obtain ⟨b3, hb3⟩ := s3 _ hm
                rw [hrdD _ hb3 k hk2 hit2 (by omega)]
                exact decide_eq_false (by omega)
              · exact hnew (id, b) hal' k hk2 (by omega) hit2
            rw [hLW, hvali, hq]; rfl
        · rw [List.getElem?_eq_none (by rw [hlen]; exact hid), List.getElem?_eq_none (by simpa using hid)]
      rw [heq] at hR'
      exact hR'
end
end Go.Den
namespace Go.Den
open Go Go.RowKit

def cnt (D : Nat → Bool) : Nat → Nat
  | 0 => 0
  | k + 1 => (if D k = true then 0 else 1) + cnt D k
theorem cnt_zero {D : Nat → Bool} : ∀ {n : Nat}, cnt D n = 0 → ∀ k, k < n → D k = true
  | 0, _, k, hk => by omega
  | n + 1, h, k, hk => by
    unfold cnt at h
    cases hd : D n with
    | true =>
      rw [hd] at h
      by_cases e : k = n
      · subst e; exact hd
      · exact cnt_zero (n := n) (by simpa using h) k (by omega)
    | false => rw [hd] at h; simp at h
theorem cnt_same {D D' : Nat → Bool} : ∀ {n : Nat}, (∀ k, k < n → D' k = D k) → cnt D' n = cnt D n
  | 0, _ => rfl
  | n + 1, h => by unfold cnt; rw [h n (by omega), cnt_same fun k hk => h k (by omega)]
theorem cnt_set {D D' : Nat → Bool} {i : Nat} (hi : D i = false) (h1 : D' i = true) (h2 : ∀ k, k ≠ i → D' k = D k) : ∀ {n : Nat}, i < n → cnt D' n + 1 = cnt D n
  | 0, h => by omega
  | n + 1, h => by
    unfold cnt
    by_cases e : n = i
    · subst e
      rw [h1, hi, cnt_same (n := n) fun k hk => h2 k (by omega)]; simp only [if_true, Bool.false_eq_true, if_false]; omega
    · rw [h2 n e, ← cnt_set hi h1 h2 (n := n) (by omega)]; omega
section
variable {C : Ctx} (hC : C.Ok) {N M : Nat}
include hC
/-- A region whose order is open: one run in the text's order, and that what waits in no order does not meet. -/
theorem draw_intro {id : Nat} {ops : Array Oper} {Q : QA} {e : Env} {h : AHeap} (bm : List Nat) (hb : drawOk ops.toList bm = true)
    (q : wpD C N ops.toList (fun e h dn => Compat bm dn ∧ Q .normal e h) ops.toList [] e h) : SemC C N M (.region id ops true) Q e h := by
  intro ρ0 w0 a0 hA
  obtain ⟨ef, hf, dn, ⟨hcp, hQ⟩, I, hlen⟩ := wpD_log hC (e0 := e) (h0 := h) ops.toList [] e h q
    ⟨(fun t => rfl), (fun id _ => rfl), (fun id _ j hj => by cases hj), Nat.le_refl _, (fun k o l hk => by cases hk)⟩ (fun k => by simp)
  have hn : dn.length = ops.toList.length := by simpa using hlen
  have hbo : befOk ops.toList bm = true := by simp only [drawOk, Bool.and_eq_true] at hb; exact hb.1
  refine wp_region_any hC.mixed ?_
  have fin : ∀ (D : Nat → Bool) (a : Act) (w : World), (∀ k, k < ops.toList.length → D k = true) → DS C N ops.toList e h dn hf ρ0 w0 D a w → Post C N M ρ0 w0 Q .normal a w := by
    rintro D a w hall ⟨ρ, hE, hR, hV, hsz, hdf⟩
    refine ⟨ρ, ef, hf, .normal, hE.toN M, ⟨?_, ?_, hsz, hdf⟩, .normal, hQ⟩
    · have : (List.range hf.length).map (fun id => (LW D (hitH dn id) (valH dn id) (h[id]?) ops.toList.length).getD .free) = hf := by
        apply List.ext_getElem?
        intro id
        rcases Nat.lt_or_ge id hf.length with hid | hid
        · rw [range_get _ _ _ hid, LW_congr (D' := fun _ => true) fun k hk _ => hall k hk, ← hn, ← I.heap id hid]
          simp [hid]
        · rw [List.getElem?_eq_none (by simpa using hid), List.getElem?_eq_none hid]
      rw [this] at hR; exact hR
    · intro t v ht
      refine hV t v ?_
      rw [LW_congr (D' := fun _ => true) fun k hk _ => hall k hk, ← hn, ← I.env t]; exact ht
  have main : ∀ (fuel : Nat) (listed : Array Bool) (a : Act) (w : World), listed.size = ops.size → cnt (fun k => listed.getD k false) ops.toList.length ≤ fuel →
      (∀ j o, ops.toList[j]? = some o → listed.getD j false = true → ∀ e ∈ o.after, Region.binds .any e = true → listed.getD e.on false = true) →
      DS C N ops.toList e h dn hf ρ0 w0 (fun k => listed.getD k false) a w → wpAny C.P .any ops (Post C N M ρ0 w0 Q) fuel listed a w := by
    intro fuel
    induction fuel with
    | zero =>
      intro listed a w hs hc hD S
      have hall := cnt_zero (Nat.le_zero.mp hc)
      refine ⟨?_, fin _ a w hall S⟩
      apply List.eq_nil_iff_forall_not_mem.mpr
      intro j hj
      obtain ⟨h1, o, ho, _⟩ := mem_ready.1 hj
      have hjl : j < ops.toList.length := by
        rw [Array.length_toList]; exact (Array.getElem?_eq_some_iff.1 ho).1
      have := hall j hjl
      have hjs : j < listed.size := by rw [hs]; simpa using hjl
      simp [hjs] at h1 this
      rw [h1] at this; cases this
    | succ fuel ih =>
      intro listed a w hs hc hD S
      refine ⟨fun hempty => fin _ a w ?_ S, fun i hi => ?_⟩
      · -- nothing may come up: all have
        intro k
        induction k using Nat.strongRecOn with
        | _ k ihk =>
          intro hk
          cases hkd : listed.getD k false with
          | true => rfl
          | false =>
            exfalso
            have hks : k < ops.size := by simpa using hk
            have hok : ops[k]? = some ops[k] := by simp [hks]
            have hol : ops.toList[k]? = some ops[k] := by simp [hks]
            obtain ⟨h1, _⟩ := befOk_spec hbo hol
            have : k ∈ Region.ready .any ops listed := mem_ready.2 ⟨by
              have hkl : k < listed.size := by rw [hs]; exact hks
              simp [hkl] at hkd ⊢; exact hkd, ops[k], hok, fun e he hbd => ihk e.on (h1 e he hbd) (Nat.lt_trans (h1 e he hbd) hk)⟩
            rw [hempty] at this; cases this
      · obtain ⟨h1, o, ho, hr⟩ := mem_ready.1 hi
        have his : i < ops.size := (Array.getElem?_eq_some_iff.1 ho).1
        have hil : i < listed.size := by rw [hs]; exact his
        have hol : ops.toList[i]? = some o := by simpa using ho
        have hDi : listed.getD i false = false := by simp [hil] at h1 ⊢; exact h1
        have hset : ∀ k, (listed.setIfInBounds i true).getD k false = if k = i then true else listed.getD k false := by
          intro k
          rw [Array.getD_eq_getD_getElem?, Array.getElem?_setIfInBounds]
          by_cases hk : i = k
          · subst hk; simp [hil]
          · rw [if_neg hk, if_neg (Ne.symm hk), Array.getD_eq_getD_getElem?]
        have hstep := DS.step hC I hn hb hcp hD hol hDi hr S (next := wpAny C.P .any ops (Post C N M ρ0 w0 Q) fuel (listed.setIfInBounds i true)) (Q := Post C N M ρ0 w0 Q) fun a' w' S' => by
          refine ih _ a' w' (by simpa using hs) ?_ ?_ ?_
          · have := cnt_set (D := fun k => listed.getD k false) (D' := fun k => (listed.setIfInBounds i true).getD k false) (i := i) hDi (by rw [hset]; simp) (fun k hk => by rw [hset, if_neg hk]) (n := ops.toList.length) (by simpa using his)
            omega
          · intro j oj hoj hj e he hbd
            rw [hset] at hj ⊢
            by_cases hji : j = i
            · subst hji
              rw [hol] at hoj; cases hoj
              rw [hr e he hbd]; simp
            · rw [if_neg hji] at hj
              rw [hD j oj hoj hj e he hbd]; simp
          · have : (fun k => (listed.setIfInBounds i true).getD k false) = fun k => if k = i then true else listed.getD k false := funext hset
            rw [this]; exact S'
        unfold wpOp
        simp only [ho]
        rw [Array.toArray_toList] at hstep
        split
        · rename_i hw
          rw [if_pos hw] at hstep
          exact .inl hstep
        · rename_i hw
          rw [if_neg hw] at hstep
          exact hstep
  refine main ops.size _ a0 _ (by simp) ?_ ?_ ?_
  · have : ∀ n, cnt (fun k => (Array.replicate ops.size false).getD k false) n ≤ n := by
      intro n
      induction n with
      | zero => exact Nat.le_refl _
      | succ n ih => unfold cnt; split <;> omega
    have := this ops.toList.length
    simpa using this
  · intro j o _ hj
    exfalso
    rw [Array.getD_eq_getD_getElem?, Array.getElem?_replicate] at hj
    split at hj <;> simp at hj
  · have hfalse : (fun k => (Array.replicate ops.size false).getD k false) = fun _ => false := by
      funext k
      rw [Array.getD_eq_getD_getElem?, Array.getElem?_replicate]
      split <;> rfl
    rw [hfalse]
    refine ⟨ρ0, ext_drawn ρ0 w0 _, ?_, ?_, hA.size, hA.defers⟩
    · have : (List.range hf.length).map (fun id => (LW (fun _ => false) (hitH dn id) (valH dn id) (h[id]?) ops.toList.length).getD .free) = h ++ List.replicate (hf.length - h.length) .free := by
        apply List.ext_getElem?
        intro id
        have hle := I.len
        rcases Nat.lt_or_ge id hf.length with hid | hid
        · rw [range_get _ _ _ hid, LW_false]
          rcases Nat.lt_or_ge id h.length with q | q
          · rw [List.getElem?_append_left q]; simp [q]
          · rw [List.getElem?_append_right q, List.getElem?_eq_none q, List.getElem?_replicate, if_pos (by omega)]; rfl
        · rw [List.getElem?_eq_none (by simpa using hid), List.getElem?_eq_none (by simp; omega)]
      rw [this]
      exact rel_drawn (rel_free hA.rel _) _
    · intro t v ht
      rw [LW_false] at ht
      exact hA.env t v ht
end
end Go.Den
namespace Go.Den
open Go Go.RowKit
def offB (a b : LE) : Bool := (a.put.all fun p => b.rd.all fun q => !Nat.beq p.1 q.1) && (b.wr.all fun p => a.rd.all fun q => !Nat.beq p.1 q.1)
theorem offB_ok {a b : LE} (h : offB a b = true) : Apart2 a b := by
  simp only [offB, Bool.and_eq_true, List.all_eq_true] at h
  refine ⟨fun p hp q hq e => ?_, fun p hp q hq e => ?_⟩
  · have := h.1 p hp q hq
    rw [e] at this; simp at this
  · have := h.2 p hp q hq
    rw [e] at this; simp at this
def cpt (bm : List Nat) (dn : List LE) : Bool := (List.range dn.length).all fun j => (List.range j).all fun i => bef bm i j || match dn[i]?, dn[j]? with
  | some a, some b => offB a b
  | _, _ => true
theorem cpt_ok {bm : List Nat} {dn : List LE} (h : cpt bm dn = true) : Compat bm dn := by
  intro i j a b hij ha hb hbef
  have hj := (List.getElem?_eq_some_iff.mp hb).1
  have h1 := List.all_eq_true.mp h j (List.mem_range.mpr hj)
  have h2 := List.all_eq_true.mp h1 i (List.mem_range.mpr hij)
  rw [ha, hb, hbef] at h2
  exact offB_ok (by simpa using h2)
/-- A region whose order is open. -/
theorem draw_go {C : Ctx} (hC : C.Ok) {N M : Nat} {id : Nat} {ops : Array Oper} {Q : QA} {e : Env} {h : AHeap} (hb : drawOk ops.toList (befM ops.toList) = true)
    (q : wpD C N ops.toList (fun e h dn => Compat (befM ops.toList) dn ∧ Q .normal e h) ops.toList [] e h) : SemC C N M (.region id ops true) Q e h := draw_intro hC _ hb q
theorem brP.t {b : Bool} {y n : Prop} (h : b = true) (q : y) : brP b y n := by subst h; exact q
theorem brP.f {b : Bool} {y n : Prop} (h : b = false) (q : n) : brP b y n := by subst h; exact q
theorem brP.introD {p : Prop} {i : Decidable p} {y n : Prop} (h1 : p → y) (h2 : ¬ p → n) : brP (@decide p i) y n := brP.intro (fun h => h1 (of_decide_eq_true h)) (fun h => h2 (of_decide_eq_false h))
theorem brP.introN {p : Prop} {i : Decidable p} {y n : Prop} (h1 : ¬ p → y) (h2 : p → n) : brP (!@decide p i) y n := brP.intro (fun h => h1 (by simpa using h)) (fun h => h2 (by simpa using h))
theorem brP.tD {p : Prop} {i : Decidable p} {y n : Prop} (h : p) (q : y) : brP (@decide p i) y n := brP.t (decide_eq_true h) q
theorem brP.fD {p : Prop} {i : Decidable p} {y n : Prop} (h : ¬ p) (q : n) : brP (@decide p i) y n := brP.f (decide_eq_false h) q
theorem brP.tN {p : Prop} {i : Decidable p} {y n : Prop} (h : ¬ p) (q : y) : brP (!@decide p i) y n := brP.t (by simp [h]) q
theorem brP.fN {p : Prop} {i : Decidable p} {y n : Prop} (h : p) (q : n) : brP (!@decide p i) y n := brP.f (by simp [h]) q
end Go.Den
namespace Go.Den
open Go Go.RowKit
/-- At the end of a round. -/
def Again {α : Type} (W0 : World) (M : Nat) (I : α → Prop) (E : α → TEnv) (H : α → AHeap) (μ : α → Nat) (n : Nat) (e' : Env) (h' : AHeap) : Prop :=
  ∃ a', I a' ∧ μ a' < n ∧ ∃ us, e'.gets ((E a').map (·.1)) = some us ∧ RT W0 M us h' ((E a').map (·.2)) (H a')
theorem Again.mk {α : Type} {W0 : World} {M : Nat} {I : α → Prop} {E : α → TEnv} {H : α → AHeap} {μ : α → Nat} {n : Nat} {e' : Env} {h' : AHeap} (a' : α) (i : I a') (m : μ a' < n)
    (t : ∃ us, e'.gets ((E a').map (·.1)) = some us ∧ RT W0 M us h' ((E a').map (·.2)) (H a')) : Again W0 M I E H μ n e' h' := ⟨a', i, m, t⟩
section
variable {C : Ctx} (hC : C.Ok) {N M : Nat}
include hC
/-- A loop, by what is known at the head of each round: temporaries and memory, out of a ghost; it is told anew at the end of each round. -/
theorem loop_go {α : Type} {c : Code} {Q : QA} {e : Env} {h : AHeap} (E : α → TEnv) (H : α → AHeap) (μ : α → Nat) (a0 : α)
    (h0 : ∃ us, e.gets ((E a0).map (·.1)) = some us ∧ RT C.W0 M us h ((E a0).map (·.2)) (H a0))
    (round : ∀ a, wpC C N M c (thenA (fun e' h' => ∃ a', μ a' < μ a ∧ ∃ us, e'.gets ((E a').map (·.1)) = some us ∧ RT C.W0 M us h' ((E a').map (·.2)) (H a')) Q) (mkE (E a)) (H a)) : SemC C N M (.loop c) Q e h := by
  intro ρ w a hA
  obtain ⟨us, hg, hT⟩ := h0
  obtain ⟨ρ1, hA1, hE1⟩ := hA.told hg hT
  refine wp_loop_ghost (fun n a' w' => ∃ α ρ', μ α = n ∧ ExtN M ρ w ρ' w' ∧ At C N ρ' (mkE (E α)) (H α) a' w') (μ a0) ⟨a0, ρ1, rfl, hE1, hA1⟩ ?_
  rintro n a' w' ⟨α, ρ', rfl, hE, hA'⟩
  refine wp_mono (wpC_sound hC c _ _ _ (round α) ρ' w' a' hA') ?_
  rintro x a2 w2 ⟨ρ2, e2, h2, ax, hE2, hA2, hX, q'⟩
  cases hX with
  | normal =>
    obtain ⟨α', hlt, us, hg, hT⟩ := q'
    obtain ⟨ρ3, hA3, hE3⟩ := hA2.told hg hT
    exact ⟨μ α', hlt, α', ρ3, rfl, (hE.trans hE2).trans hE3, hA3⟩
  | exit id => exact ⟨ρ2, e2, h2, _, hE.trans hE2, hA2, .exit id, q'⟩
  | ret => exact ⟨ρ2, e2, h2, _, hE.trans hE2, hA2, .ret, q'⟩
  | pan v v' hv => exact ⟨ρ2, e2, h2, _, hE.trans hE2, hA2, .pan v v' hv, q'⟩
/-- The same, for ghosts of which something is known. -/
theorem loop_I {α : Type} {c : Code} {Q : QA} {e : Env} {h : AHeap} (I : α → Prop) (E : α → TEnv) (H : α → AHeap) (μ : α → Nat) (a0 : α) (i0 : I a0)
    (h0 : ∃ us, e.gets ((E a0).map (·.1)) = some us ∧ RT C.W0 M us h ((E a0).map (·.2)) (H a0))
    (round : ∀ a, I a → wpC C N M c (thenA (fun e' h' => Again C.W0 M I E H μ (μ a) e' h') Q) (mkE (E a)) (H a)) : SemC C N M (.loop c) Q e h := by
  intro ρ w a hA
  obtain ⟨us, hg, hT⟩ := h0
  obtain ⟨ρ1, hA1, hE1⟩ := hA.told hg hT
  refine wp_loop_ghost (fun n a' w' => ∃ α ρ', μ α = n ∧ I α ∧ ExtN M ρ w ρ' w' ∧ At C N ρ' (mkE (E α)) (H α) a' w') (μ a0) ⟨a0, ρ1, rfl, i0, hE1, hA1⟩ ?_
  rintro n a' w' ⟨α, ρ', rfl, hi, hE, hA'⟩
  refine wp_mono (wpC_sound hC c _ _ _ (round α hi) ρ' w' a' hA') ?_
  rintro x a2 w2 ⟨ρ2, e2, h2, ax, hE2, hA2, hX, q'⟩
  cases hX with
  | normal =>
    obtain ⟨α', hi', hlt, us, hg, hT⟩ := q'
    obtain ⟨ρ3, hA3, hE3⟩ := hA2.told hg hT
    exact ⟨μ α', hlt, α', ρ3, rfl, hi', (hE.trans hE2).trans hE3, hA3⟩
  | exit id => exact ⟨ρ2, e2, h2, _, hE.trans hE2, hA2, .exit id, q'⟩
  | ret => exact ⟨ρ2, e2, h2, _, hE.trans hE2, hA2, .ret, q'⟩
  | pan v v' hv => exact ⟨ρ2, e2, h2, _, hE.trans hE2, hA2, .pan v v' hv, q'⟩
end
attribute [irreducible] Again
/-- The same, told anew. -/
theorem wpC.here {C : Ctx} {N M : Nat} {c : Code} {Q : QA} {e e' : Env} {h h' : AHeap} (he : e = e') (hh : h = h') (q : wpC C N M c Q e' h') : wpC C N M c Q e h := by subst he; subst hh; exact q
/-- What a comparison of like things answers. -/
theorem ne_same2 (x y : Int) : (!(decide (x = x) && (decide (y = y) && true))) = false := by simp
theorem ne_same (x : Int) : (!decide (x = x)) = false := by simp
/-- A record that was read, told by what it is. -/
theorem agg_ld {K : Eff → Prop} {xs ys : List Value} {rd : List (Nat × ABlk)} (h : xs = ys) (q : K ⟨some (.agg ys.toArray), rd, [], []⟩) : K ⟨some (.agg xs.toArray), rd, [], []⟩ := by subst h; exact q
end Go.Den
namespace Go.Den
open Go Go.RowKit
/-! ### what is without names, by its form -/
class NFv (v : Value) : Prop where
  h : NF v
class NFs (l : List Value) : Prop where
  h : ∀ v ∈ l, NF v
instance {b : Bool} : NFv (.bool b) := ⟨.bool b⟩
instance {k : IntKind} {n : Int} : NFv (.int k n) := ⟨.int k n⟩
instance {s : ByteArray} : NFv (.string s) := ⟨.string s⟩
instance : NFv (.pointer none) := ⟨AF.ptrN.nf⟩
instance {n c : Nat} : NFv (.slice none n c) := ⟨(AF.sliceN n c).nf⟩
instance : NFv (.map none) := ⟨AF.mapN.nf⟩
instance : NFv .nilFunc := ⟨AF.nilFunc.nf⟩
instance : NFv .nilIface := ⟨AF.nilIface.nf⟩
instance {l : List Value} {n : Nat} [k : NFs l] : NFv (.func (.yield n) (List.toArray l) (List.toArray [])) := ⟨.lv n k.h⟩
instance {l : List Value} {n : Nat} [k : NFs l] : NFv (.func (.yield n) (List.toArray l) (List.toArray [.bool true])) := ⟨.lp n k.h⟩
instance {l : List Value} [k : NFs l] : NFv (.agg (List.toArray l)) := ⟨.agg fun v hv => k.h v (by simpa using hv)⟩
instance {l : List Value} [k : NFs l] : NFv (.tuple (List.toArray l)) := ⟨.tuple fun v hv => k.h v (by simpa using hv)⟩
instance {t : TypeId} {v : Value} [k : NFv v] : NFv (.iface t v) := ⟨.iface t k.h⟩
instance {f : FuncId} {l m : List Value} [k : NFs l] [j : NFs m] : NFv (.func (.func f) (List.toArray l) (List.toArray m)) := ⟨.func rfl (fun v hv => k.h v (by simpa using hv)) (fun v hv => j.h v (by simpa using hv))⟩
instance {c : Bool} {u v : Value} [k : NFv u] [j : NFv v] : NFv (if c = true then u else v) := ⟨by split; exact k.h; exact j.h⟩
instance {p : Prop} [Decidable p] {u v : Value} [k : NFv u] [j : NFv v] : NFv (if p then u else v) := ⟨by split; exact k.h; exact j.h⟩
instance : NFs [] := ⟨fun v h => by cases h⟩
instance {v : Value} {l : List Value} [k : NFv v] [j : NFs l] : NFs (v :: l) := ⟨fun u h => by rcases List.mem_cons.mp h with rfl | h; exact k.h; exact j.h u h⟩
instance {l m : List Value} [k : NFs l] [j : NFs m] : NFs (l ++ m) := ⟨fun u h => by rcases List.mem_append.mp h with h | h; exact k.h u h; exact j.h u h⟩
instance {l : List Value} {n : Nat} [k : NFs l] : NFs (l.take n) := ⟨fun u h => k.h u (List.mem_of_mem_take h)⟩
instance {l : List Value} {n : Nat} [k : NFs l] : NFs (l.drop n) := ⟨fun u h => k.h u (List.mem_of_mem_drop h)⟩
instance {n : Nat} {v : Value} [k : NFv v] : NFs (List.replicate n v) := ⟨fun u h => by rw [(List.mem_replicate.mp h).2]; exact k.h⟩
instance {l : List Value} {o : Nat} {m : List Value} [k : NFs l] [j : NFs m] : NFs (putL l o m) := ⟨fun u h => by
  unfold putL at h
  rcases List.mem_append.mp h with h | h
  · rcases List.mem_append.mp h with h | h
    · exact k.h u (List.mem_of_mem_take h)
    · exact j.h u h
  · exact k.h u (List.mem_of_mem_drop h)⟩
instance {l : List UInt8} : NFs (byteV l) := ⟨fun u h => (cl1_af (List.all_eq_true.mp (byteV_cl l) u h)).nf⟩
instance {α : Type} {f : α → Value} {l : List α} [k : ∀ a, NFv (f a)] : NFs (l.map f) := ⟨fun u h => by obtain ⟨a, _, rfl⟩ := List.mem_map.mp h; exact (k a).h⟩
instance {α : Type} {f : α → List Value} {l : List α} [k : ∀ a, NFs (f a)] : NFs (l.flatMap f) := ⟨fun u h => by obtain ⟨a, _, ha⟩ := List.mem_flatMap.mp h; exact (k a).h u ha⟩
section
variable {C : Ctx}
/-- A function without names in what it is given and answers, by an answer of just that form. -/
theorem PureF.E {f : FuncId} {args : List Value} {v : Value} [a : NFs args] [b : NFv v] (c : CallP C f args [] (fun u _ => u = v) (fun _ _ => False)) : PureF C f args v :=
  ⟨a.h, b.h, c.mono (fun u h e => by subst e; exact RT.drop (fun x hx => by rw [List.mem_singleton.mp hx]; exact b.h) rfl) fun _ _ e => e⟩
theorem PureF.N {f : FuncId} {args : List Value} {v : Value} [a : NFs args] [b : NFv v] (c : CallP C f args [] (fun u h => RT C.W0 0 [u] h [v] []) (fun _ _ => False)) : PureF C f args v := ⟨a.h, b.h, c⟩
theorem RT.v {W0 : World} {u v : Value} {h : AHeap} [b : NFv v] (e : u = v) : RT W0 0 [u] h [v] [] := by subst e; exact RT.drop (fun x hx => by rw [List.mem_singleton.mp hx]; exact b.h) rfl
/-- An answer that leads to one block of its own. -/
theorem RT.z {W0 : World} {u v : Value} {h : AHeap} (k : Nat) {cs : List Value} {sz : Nat} {sp : Bool} {ty : TypeId} [b : NFv v] (hk : h[k]? = some (.cells cs sz true sp ty)) (hu : VTo (FzR k cs sz) u v) : RT W0 0 [u] h [v] [] :=
  RT.fz k hk (fun x hx => by rw [List.mem_singleton.mp hx]; exact b.h) (.cons hu .nil)
theorem VTo.n {R : Ren → Ren → Prop} [Keeps R] {u v : Value} [b : NFv v] (e : u = v) : VTo R u v := .eq b.h e
theorem LTo.n {R : Ren → Ren → Prop} [Keeps R] {us vs : List Value} [b : NFs vs] (e : us = vs) : LTo R us vs := .eq b.h e
/-- The same, where the list is told by an equation. -/
theorem VTo.fz' {k : Nat} {cs ds : List Value} {sz : Nat} {o n c : Nat} (h : o + n * sz ≤ cs.length) (e : (cs.drop o).take (n * sz) = ds) : VTo (FzR k cs sz) (.slice (some ⟨k, o, none⟩) n c) (LV ds n) := by subst e; exact .fz h
end

/-! ### blocks lent as lists -/
/-- The blocks of rd may be read as lists, as long as no one writes. -/
def LendR (rd : List (Nat × ABlk)) (ρ σ : Ren) : Prop := (∀ (b : Nat) (a : Array Value), ρ.im b = some a → σ.im b = some a) ∧
  ∀ (k : Nat) (cs : List Value) (sz : Nat) (wr sp : Bool) (ty : TypeId), (k, ABlk.cells cs sz wr sp ty) ∈ rd → ∀ l, ρ k = some l → l.n = cs.length ∧ l.sz = sz ∧ ∃ arr : Array Value, σ.im l.blk = some arr ∧ l.off + cs.length ≤ arr.size ∧
    ∀ (j : Nat) (u u' : Value), cs[j]? = some u → arr[l.off + j]? = some u' → VRel σ u u'
instance (rd : List (Nat × ABlk)) : Keeps (LendR rd) := ⟨fun h => h.1⟩
theorem VTo.lend {rd : List (Nat × ABlk)} {k : Nat} {cs ds : List Value} {sz : Nat} {wr sp : Bool} {ty : TypeId} {o n c : Nat} (hm : (k, ABlk.cells cs sz wr sp ty) ∈ rd) (h : o + n * sz ≤ cs.length) (e : (cs.drop o).take (n * sz) = ds) :
    VTo (LendR rd) (.slice (some ⟨k, o, none⟩) n c) (LV ds n) := fun ρ σ v' hr q => by
  subst e
  cases q with
  | slice0 _ _ l x hl => exact .lst0 _ _ _
  | slice _ _ _ _ l c' hl h1 h2 h3 h4 =>
    obtain ⟨g1, g2, arr, g3, g4, g5⟩ := hr.2 k cs sz wr sp ty hm l hl
    refine .lstL g3 (by simp only [List.length_take, List.length_drop]; omega) ?_ fun j u u' p r => ?_
    · by_cases z : o + c * l.sz = l.n
      · have := (h3 z).1; omega
      · rw [h4 z]; exact h1
    · rw [List.getElem?_take] at p
      split at p
      · rw [List.getElem?_drop] at p
        exact g5 _ u u' p (by rw [← Nat.add_assoc]; exact r)
      · cases p
theorem LTo.lent {R : Ren → Ren → Prop} [Keeps R] {us : List Value} [b : NFs us] : LTo R us us := .nf b.h
def lendOk : List (Nat × ABlk) → Prop
  | [] => True
  | (_, .cells cs _ _ _ _) :: r => NFs cs ∧ lendOk r
  | _ :: _ => False
theorem lendOk_at : ∀ {rd : List (Nat × ABlk)}, lendOk rd → ∀ p ∈ rd, ∃ cs sz wr sp ty, p.2 = .cells cs sz wr sp ty ∧ ∀ v ∈ cs, NF v
  | (k, .cells cs sz wr sp ty) :: r, ⟨h1, h2⟩, p, hp => by
    rcases List.mem_cons.mp hp with rfl | hp
    · exact ⟨cs, sz, wr, sp, ty, rfl, h1.h⟩
    · exact lendOk_at h2 p hp
  | (_, .free) :: _, h, _, _ => h.elim
  | (_, .dead) :: _, h, _, _ => h.elim
  | (_, .iter _ _) :: _, h, _, _ => h.elim
  | (_, .map _ _) :: _, h, _, _ => h.elim
/-- A function of lists that answers without an address, called with slices of blocks. -/
theorem PureF.lend {C : Ctx} {f : FuncId} {args args0 : List Value} {v : Value} (p : PureF C f args0 v) (hv : AF v) (rd : List (Nat × ABlk)) (hrd : lendOk rd) (ha : LTo (LendR rd) args args0) (nid : Nat) : EffC C f args nid ⟨some v, rd, [], []⟩ := by
  refine ⟨p.2.2.enters, (fun p hp => by cases hp), fun ρ h w args' hR hL hr _ => ?_⟩
  let σ : Ren := ⟨fun _ => none, fun b => match w.heap[b]? with
    | some (.cells a _ _) => some a
    | _ => none⟩
  have him : ∀ {b : Nat} {a : Array Value} {t : TypeId} {fr : Nat × Nat}, w.heap[b]? = some (.cells a t fr) → σ.im b = some a := fun {b a t fr} q => by
    show (match w.heap[b]? with | some (.cells a _ _) => some a | _ => none) = some a
    rw [q]
  have hmono : ∀ (b : Nat) (a : Array Value), ρ.im b = some a → σ.im b = some a := fun b a e => by
    obtain ⟨t, fr, q⟩ := hR.imm b a e
    exact him q
  have hR1 : Rel C.W0 σ [] w := by
    refine ⟨(fun _ _ _ h => by cases h), (fun _ _ h => by cases h), (fun _ _ _ _ _ _ h => by cases h), hR.low, (fun _ _ h => by cases h), (fun _ _ h => by cases h), (fun _ _ h => by cases h), ?_, (fun _ _ _ h => by cases h)⟩
    intro b a e
    change (match w.heap[b]? with | some (.cells a _ _) => some a | _ => none) = some a at e
    split at e
    · rename_i q; cases e; exact ⟨_, _, q⟩
    · cases e
  have hLd : LendR rd ρ σ := ⟨hmono, fun k cs sz wr sp ty hm l hl => by
    obtain ⟨cs', sz', wr', sp', ty', e1, hn⟩ := lendOk_at hrd _ hm
    cases e1
    obtain ⟨b1, b2, b3, b4, b5, b6, arr, e, fr, hty, b7, b8, b9, b10⟩ := hR.blk k l _ hl (hr _ hm)
    refine ⟨b5.symm, b1.symm, arr, him b7, by omega, fun j u u' p q => ?_⟩
    obtain ⟨v', p1, p2⟩ := b9 j u p
    rw [p1] at q; cases q
    exact hn u (List.mem_of_getElem? p) ρ σ _ hmono p2⟩
  refine (p.run hR1 (ha.rel hLd hL)).mono fun en w' q => ?_
  obtain ⟨v', σ2, rfl, g1, g2, g3⟩ := q
  have hk : ∀ b, b < w.heap.size → w'.heap[b]? = w.heap[b]? := fun b hb => g2.keep b hb fun _ _ h => by cases h
  refine ⟨v', ρ, rfl, fun u hu => by cases hu; rw [hv.eq g1]; exact hv.rel ρ, ⟨Sub.refl ρ, fun i l h k => .inl ⟨i, l, h, k, rfl⟩, g2.size, fun b hb _ => hk b hb, g2.os, g2.tape, g2.output, fun _ _ z => .inl z⟩, ?_⟩
  refine ⟨fun i l b hi hb => (hR.blk i l b hi hb).mono (Sub.refl ρ) (hk _ (hR.room i l hi)), hR.dom, hR.sep, g3.low, hR.high, fun i l hi => Nat.lt_of_lt_of_le (hR.room i l hi) g2.size, hR.tot, fun b a e => ?_, hR.isep⟩
  obtain ⟨t, fr, q⟩ := hR.imm b a e
  exact ⟨t, fr, (hk b (hR.im_room e)).trans q⟩
/-- A function of lists, called with what may be told as lists at once. -/
theorem PureF.give0 {C : Ctx} {f : FuncId} {args args0 : List Value} {v : Value} (p : PureF C f args0 v) (ha : LTo (NmR []) args args0) (nid : Nat) : EffC C f args nid ⟨some v, [], [], []⟩ := by
  refine ⟨p.2.2.enters, (fun p hp => by cases hp), fun ρ h w args' hR hL hr _ => ?_⟩
  refine (p.run hR (ha.rel (ρ := ρ) (σ := ρ) ⟨fun _ _ z => z, fun p hp => by cases hp⟩ hL)).mono fun en w' q => ?_
  obtain ⟨v', σ, rfl, g1, g2, g3⟩ := q
  exact ⟨v', σ, rfl, fun u hu => by cases hu; exact g1, g2, g3⟩
/-- A function of lists, called with a block that is given up. -/
theorem PureF.give1 {C : Ctx} {f : FuncId} {args args0 : List Value} {v : Value} (p : PureF C f args0 v) (k : Nat) {cs : List Value} {sz : Nat} {sp : Bool} {ty : TypeId} (ha : LTo (FzR k cs sz) args args0) (nid : Nat) :
    EffC C f args nid ⟨some v, [(k, .cells cs sz true sp ty)], [(k, .dead)], []⟩ := by
  refine ⟨p.2.2.enters, (fun p hp => by rw [List.mem_singleton.mp hp]; exact ⟨_, List.mem_singleton.mpr rfl⟩), fun ρ h w args' hR hL hr _ => ?_⟩
  have hk : h[k]? = some (.cells cs sz true sp ty) := hr _ (List.mem_singleton.mpr rfl)
  obtain ⟨ρ', a, b, c⟩ := RT.fz1 (W0 := C.W0) (M := h.length) k hk ha ρ w args' hR hL
  refine (p.run a b).mono fun en w' q => ?_
  obtain ⟨v', σ, rfl, g1, g2, g3⟩ := q
  exact ⟨v', σ, rfl, fun u hu => by cases hu; exact g1, (c.ext hR.dom).trans g2, g3⟩
/-- A place without a block. -/
theorem RT.pad {W0 : World} {M : Nat} {us : List Value} {h : AHeap} : RT W0 M us h us (h ++ [.dead]) := fun ρ w ds hR hL => by
  have h1 := rel_dead (rel_free hR 1) h.length
  have e : (h ++ List.replicate 1 ABlk.free).set h.length .dead = h ++ [.dead] := by
    rw [List.set_append_right _ _ (Nat.le_refl _), Nat.sub_self]; rfl
  rw [e] at h1
  exact ⟨ρ, h1, hL, ExtN.refl M ρ w⟩
end Go.Den
namespace Go.Den
open Go Go.RowKit
/-! ### a loop, round by round, where it is known how it goes -/
/-- The loop ends within so many rounds. -/
def roundsK (C : Ctx) (N M : Nat) (c : Code) (Q : QA) : Nat → Env → AHeap → Prop
  | 0, _, _ => False
  | n + 1, e, h => wpC C N M c (thenA (roundsK C N M c Q n) Q) e h
theorem rounds_s {C : Ctx} {N M : Nat} {c : Code} {Q : QA} {n : Nat} {e : Env} {h : AHeap} (q : wpC C N M c (thenA (roundsK C N M c Q n) Q) e h) : roundsK C N M c Q (n + 1) e h := q
section
variable {C : Ctx} (hC : C.Ok) {N M : Nat}
include hC
theorem loop_N {c : Code} {Q : QA} {e : Env} {h : AHeap} (n : Nat) (q : roundsK C N M c Q n e h) : SemC C N M (.loop c) Q e h := by
  intro ρ w a hA
  refine wp_loop_rounds n ?_
  have key : ∀ n e h ρ1 w1 a1, roundsK C N M c Q n e h → ExtN M ρ w ρ1 w1 → At C N ρ1 e h a1 w1 → Code.rounds C.P c (Post C N M ρ w Q) n a1 w1 := by
    intro n
    induction n with
    | zero => intro e h ρ1 w1 a1 q _ _; exact q.elim
    | succ n ih =>
      intro e h ρ1 w1 a1 q hE hA1
      refine wp_mono (wpC_sound hC c _ e h q ρ1 w1 a1 hA1) ?_
      rintro x a2 w2 ⟨ρ2, e2, h2, ax, hE2, hA2, hX, q'⟩
      cases hX with
      | normal => exact ih e2 h2 ρ2 w2 a2 q' (hE.trans hE2) hA2
      | exit id => exact ⟨ρ2, e2, h2, _, hE.trans hE2, hA2, .exit id, q'⟩
      | ret => exact ⟨ρ2, e2, h2, _, hE.trans hE2, hA2, .ret, q'⟩
      | pan v v' hv => exact ⟨ρ2, e2, h2, _, hE.trans hE2, hA2, .pan v v' hv, q'⟩
  exact key n e h ρ w a q (ExtN.refl M ρ w) hA
end
attribute [irreducible] roundsK
theorem beq_self (k : ByteArray) : (k == k) = true := by
  show (k.data == k.data) = true
  exact beq_self_eq_true _
theorem mfind_self (k : ByteArray) (v : Value) (b : Nat) (r : List MapEntry) : mfind true (.string k) (⟨.string k, v, b⟩ :: r) = some (some (0, v)) := by
  unfold mfind Instr.findNow
  simp only [kdD, Instr.sameNow, beq_self]
end Go.Den
namespace Go.Den
open Go Go.RowKit
section
variable {C : Ctx}
/-- From a contract of the machine's own, of a function that makes one new row of cells and gives it back whole. -/
theorem PureF.of_new {f : FuncId} {args : List Value} {cs : List Value} {n : Nat} {ty : TypeId} (ha : ∀ a ∈ args, AF a) (hc : ∀ v ∈ cs, AF v) (hen : Enters C.P f)
    (c : ∀ w : World, Below C.W0.heap.size C.W0 w → Calls C.P f args.toArray w fun e w' => e = .returned (.slice (some ⟨w.heap.size, 0, none⟩) n n) ∧ w' = w.alloc (.cells cs.toArray ty)) : PureF C f args (LV cs n) := by
  refine ⟨fun a h => (ha a h).nf, .lv n fun v hv => (hc v hv).nf, hen, fun ρ w args' hR hL => ?_⟩
  obtain rfl := lrel_af hL ha
  refine (c w hR.low).mono fun en w' q => ?_
  obtain ⟨rfl, rfl⟩ := q
  have hb : Below w.heap.size w (w.alloc (.cells cs.toArray ty)) := (Below.refl _ w).alloc (Nat.le_refl _) _
  have hnew : (w.alloc (.cells cs.toArray ty)).heap[w.heap.size]? = some (.cells cs.toArray ty) := by show (w.heap.push _)[w.heap.size]? = _; simp
  let σ : Ren := ⟨ρ.nm, fun b => if b = w.heap.size then some cs.toArray else ρ.im b⟩
  have him : ∀ (b : Nat) (a : Array Value), ρ.im b = some a → σ.im b = some a := fun b a z => by
    have := hR.im_room z
    show (if b = w.heap.size then some cs.toArray else ρ.im b) = some a
    rw [if_neg (by omega)]; exact z
  have hinv : ∀ (b : Nat) (a : Array Value), σ.im b = some a → (b = w.heap.size ∧ a = cs.toArray) ∨ ρ.im b = some a := fun b a z => by
    change (if b = w.heap.size then some cs.toArray else ρ.im b) = some a at z
    by_cases q : b = w.heap.size
    · rw [if_pos q] at z; cases z; exact .inl ⟨q, rfl⟩
    · rw [if_neg q] at z; exact .inr z
  refine ⟨σ, LV cs n, [], ?_, ?_, ?_, RT.refl _ _ _ _⟩
  · refine ⟨⟨fun _ _ z => z, him⟩, fun i l h k => .inl ⟨i, l, h, k, rfl⟩, hb.size, fun b hlt _ => hb.block b hlt, hb.os, hb.tape, hb.output, fun b a z => ?_⟩
    rcases hinv b a z with ⟨h, _⟩ | h
    · exact .inr (.inl (by omega))
    · exact .inl h
  · refine ⟨(fun i l b hi hb' => by cases hb'), (fun i l hi => hR.dom i l hi), (fun i j l m b c hi hj hij hb' => by cases hb'), ?_, hR.high, (fun i l hi => Nat.lt_of_lt_of_le (hR.room i l hi) hb.size), (fun i b hb' => by cases hb'), ?_, (fun i l b _ hb' => by cases hb')⟩
    · exact hR.low.trans ⟨hb.os, hb.tape, hb.output, hb.size, fun k hk => hb.block k (Nat.lt_of_lt_of_le hk hR.low.size)⟩
    · intro b a e
      rcases hinv b a e with ⟨rfl, rfl⟩ | e
      · exact ⟨_, _, hnew⟩
      · obtain ⟨t, fr, q⟩ := hR.imm b a e
        exact ⟨t, fr, (hb.block b (hR.im_room e)).trans q⟩
  · refine VRel.lst n cs.toArray cs.toArray w.heap.size 0 n (if_pos rfl) (by simp) (Nat.le_refl _) fun k u u' h1 h2 => ?_
    rw [Nat.zero_add, h1] at h2
    cases h2
    exact (hc u (by have := Array.mem_of_getElem? h1; simpa using this)).rel σ
/-- The same, the new row under a name (the caller may write it). -/
theorem EffC.of_new {f : FuncId} {args : List Value} {cs : List Value} {n : Nat} {ty : TypeId} (nid : Nat) (ha : ∀ a ∈ args, AF a) (hc : ∀ v ∈ cs, AF v) (hn : cs.length = n) (hen : Enters C.P f)
    (c : ∀ w : World, Below C.W0.heap.size C.W0 w → Calls C.P f args.toArray w fun e w' => e = .returned (.slice (some ⟨w.heap.size, 0, none⟩) n n) ∧ w' = w.alloc (.cells cs.toArray ty)) :
    EffC C f args nid ⟨some (.slice (some ⟨nid, 0, none⟩) n n), [], [], [.cells cs 1 true false ty]⟩ := by
  refine ⟨hen, (fun p hp => by cases hp), fun ρ h w args' hR hL _ hfr => ?_⟩
  obtain rfl := lrel_af hL ha
  refine (c w hR.low).mono fun en w' q => ?_
  obtain ⟨rfl, rfl⟩ := q
  have hf : h[nid]? = some .free := hfr (nid, .cells cs 1 true false ty) (List.mem_singleton.mpr rfl)
  obtain ⟨hR', hE⟩ := new_blk hR hf (us := cs) (ds := cs) ty (sz := 1) (by decide) rfl (fun j u u' p q => by rw [p] at q; cases q; exact (hc u (List.mem_of_getElem? p)).rel ρ)
  refine ⟨_, _, rfl, fun u hu => ?_, hE, hR'⟩
  cases hu
  have := VRel.slice (ρ := upd ρ nid ⟨w.heap.size, 0, cs.length, cs.length, 1, true⟩) nid 0 n n _ n (upd_same _ _ _) (Nat.le_refl _) (by simp only []; omega)
    (fun _ => ⟨Nat.le_refl _, by simp only []; omega⟩) (fun _ => rfl)
  simpa using this
/-- From a contract of the machine's own on a row of values (one cell each). -/
theorem PureF.of_row {f : FuncId} {args : List Value} {cs : List Value} {v : Value} (hc : ∀ v ∈ cs, AF v) (ha : ∀ a ∈ args, AF a) (hv : AF v) (hen : Enters C.P f)
    (c0 : cs = [] → ∀ (w : World) (p : Option Addr) (k : Nat), Below C.W0.heap.size C.W0 w → Calls C.P f (Value.slice p 0 k :: args).toArray w fun e w' => e = .returned v ∧ Below w.heap.size w w')
    (c : ∀ (w : World) (b o k : Nat), Below C.W0.heap.size C.W0 w → b < w.heap.size → cs.length ≤ k → (∀ (j : Nat) (x : Value), cs[j]? = some x → w.cell? ⟨b, o + j, none⟩ = some x) →
      Calls C.P f (Value.slice (some ⟨b, o, none⟩) cs.length k :: args).toArray w fun e w' => e = .returned v ∧ Below w.heap.size w w') : PureF C f (LV cs cs.length :: args) v := by
  refine ⟨fun a h => ?_, hv.nf, hen, fun ρ w args' hR hL => ?_⟩
  · rcases List.mem_cons.mp h with rfl | h
    · exact .lv _ fun v hv => (hc v hv).nf
    · exact (ha a h).nf
  · have fin : ∀ en w', (en = Ending.returned v ∧ Below w.heap.size w w') → CPost C ρ w (fun u h => RT C.W0 0 [u] h [v] []) (fun _ _ => False) en w' := by
      rintro en w' ⟨rfl, hb⟩
      refine ⟨ρ, v, [], ?_, ?_, hv.rel ρ, RT.refl _ _ _ _⟩
      · exact ⟨Sub.refl ρ, fun i l h k => .inl ⟨i, l, h, k, rfl⟩, hb.size, fun b hlt _ => hb.block b hlt, hb.os, hb.tape, hb.output, fun _ _ z => .inl z⟩
      · refine ⟨(fun i l b hi hb' => by cases hb'), (fun i l hi => hR.dom i l hi), (fun i j l m b c hi hj hij hb' => by cases hb'), ?_, hR.high, (fun i l hi => Nat.lt_of_lt_of_le (hR.room i l hi) hb.size), (fun i b hb' => by cases hb'), ?_, (fun i l b _ hb' => by cases hb')⟩
        · exact hR.low.trans ⟨hb.os, hb.tape, hb.output, hb.size, fun k hk => hb.block k (Nat.lt_of_lt_of_le hk hR.low.size)⟩
        · intro b a e
          obtain ⟨t, fr, q⟩ := hR.imm b a e
          exact ⟨t, fr, (hb.block b (hR.im_room e)).trans q⟩
    obtain ⟨hl, hj⟩ := hL
    match args', hl with
    | x :: r, hl =>
      have hr : r = args := lrel_af ⟨by simpa using hl, fun j u u' p q => hj (j + 1) u u' (by simpa using p) (by simpa using q)⟩ ha
      subst hr
      have hx := hj 0 _ x rfl rfl
      rcases lst_inv hx with ⟨p, k, h0, rfl⟩ | ⟨arr, b, off, k, h1, h2, h3, rfl, h4⟩
      · have e0 := List.eq_nil_of_length_eq_zero h0
        exact (c0 e0 w p k hR.low).mono fin
      · obtain ⟨t, fr, hb⟩ := hR.imm _ _ h1
        refine (c w b off k hR.low (hR.im_room h1) h3 fun j x hx => ?_).mono fin
        have hjl : off + j < arr.size := by have := (List.getElem?_eq_some_iff.mp hx).1; omega
        have := h4 j x arr[off + j] hx (by simp [hjl])
        rw [cell_of hb, Array.getElem?_eq_getElem hjl, (hc x (List.mem_of_getElem? hx)).eq this]
end
end Go.Den
