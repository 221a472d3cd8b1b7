import Derived.Test.YtioahngbfdfcaaaDoorKLa
set_option linter.unusedVariables false
set_option linter.unusedSimpArgs false
namespace Go.Proofs.YtioahngbfdfcaaaDoor
open Go Go.Den Go.RowKit
variable {W0 : World}
/-! line: the pieces of a line -/
def upto (b : UInt8) (l : List UInt8) : List UInt8 := l.takeWhile fun c => decide (c ≠ b)
theorem upto_len (b : UInt8) (l : List UInt8) : (upto b l).length ≤ l.length := (List.takeWhile_sublist _).length_le
theorem upto_take (b : UInt8) : ∀ l : List UInt8, l.take (upto b l).length = upto b l
  | [] => rfl
  | c :: t => by
    unfold upto
    by_cases h : c = b
    · simp [h]
    · have := upto_take b t
      unfold upto at this
      simpa [h] using this
theorem upto_no {b : UInt8} : ∀ {l : List UInt8}, b ∉ l → upto b l = l
  | [], _ => rfl
  | c :: t, h => by
    have h1 : c ≠ b := fun e => h (by simp [e])
    have := upto_no (l := t) fun e => h (List.mem_cons_of_mem _ e)
    unfold upto at this ⊢
    simpa [h1] using this
theorem strings_IndexByte (l : List UInt8) (c : Int) (b : UInt8) (hc : c.toNat.toUInt8 = b) : PureF (C W0) I.strings_IndexByte [.string (bs l), .int .u8 c] (.int .i64 (if b ∈ l then ((upto b l).length : Int) else -1)) :=
  PureF.of_calls (fun a h => by
    rcases List.mem_cons.mp h with rfl | h
    · exact .string _
    · rcases List.mem_singleton.mp h with rfl; exact .int _ _) (.int _ _) ⟨_, B.strings_IndexByte, rfl, rfl⟩ fun w hb => by
    have h := Tryd.strings_IndexByte (bs l) c w
    rw [hc, show (bs l).data.toList = l by simp [bs], index_is] at h
    exact h.mono fun e w' ⟨h1, h2⟩ => ⟨h1, h2 ▸ Below.refl _ _⟩
def pieceL (s : List UInt8) (at_ : Nat) : List UInt8 := upto 124 (s.drop at_)
def nextV (s : List UInt8) (at_ : Nat) : Value := if at_ ≤ s.length then .tuple #[.string (bs (pieceL s at_)), .int .i64 at_, .bool true] else .tuple #[.string ⟨#[]⟩, .int .i64 0, .bool false]
def nextAt (s : List UInt8) (at_ : Nat) : Nat := if at_ ≤ s.length then at_ + (pieceL s at_).length + 1 else at_
abbrev atB (k : Nat) : ABlk := .cells [.int .i64 k] 1 true false Y.int
abbrev sB (w : Bool) (s : List UInt8) : ABlk := .cells [.string (bs s)] 1 w false Y.string
theorem next_call (s : List UInt8) (hs : s.length ≤ 1048576) (k : Nat) (hk : k ≤ 2000000) : CallP (C W0) I.line_cutter_1 [.pointer (some ⟨0, 0, none⟩), .pointer (some ⟨1, 0, none⟩)] [atB k, sB false s]
    (fun u h => RT (C W0).W0 2 [u] h [nextV s k] [atB (nextAt s k), sB false s]) (fun _ _ => False) := by
  have hsz := bs_size s
  refine CallP.of_body (C_ok W0) B.line_cutter_1 rfl rfl rfl ?_
  unfold nextV nextAt
  by_cases h : k ≤ s.length
  · rw [if_pos h, if_pos h]
    have e1 : (bs s).extract ((k : Int).toNat) (((bs s).size : Int)).toNat = bs (s.drop k) := by
      rw [Int.toNat_natCast, Int.toNat_natCast, bs_extract, hsz, List.take_of_length_le (by simp)]
    have ib := strings_IndexByte (W0 := W0) (s.drop k) 124 124 rfl
    have pl := upto_len 124 (s.drop k)
    rw [List.length_drop] at pl
    have e3 : (bs s).extract ((k : Int).toNat) (((k + (pieceL s k).length : Nat) : Int)).toNat = bs (pieceL s k) := by
      rw [Int.toNat_natCast, Int.toNat_natCast, bs_extract, show k + (pieceL s k).length - k = (upto 124 (s.drop k)).length by unfold pieceL; omega, upto_take]; rfl
    rw [← e1, show (upto 124 (s.drop k)).length = (pieceL s k).length from rfl] at ib
    rw [show (upto 124 (s.drop k)).length = (pieceL s k).length from rfl] at pl
    by_cases hm : (124 : UInt8) ∈ s.drop k
    · rw [if_pos hm] at ib
      have w1 : IntKind.i64.wrap ((k : Int) + IntKind.i64.wrap (((pieceL s k).length : Int) + 1)) = ((k + (pieceL s k).length + 1 : Nat) : Int) := by
        rw [show IntKind.i64.wrap (((pieceL s k).length : Int) + 1) = ((pieceL s k).length : Int) + 1 from wrap_in (by omega), wrap_in (by omega)]; omega
      have w2 : IntKind.i64.wrap ((k : Int) + ((pieceL s k).length : Int)) = ((k + (pieceL s k).length : Nat) : Int) := by rw [wrap_in (by omega)]; omega
      repeat' first
        | refine brP.fD (by omega) ?_
        | refine (ib).call ?_
        | (apply Here.norm; (first | dsimp only [Env.putR, argEnv, pure1, newPtr, applyE, hset, List.length_cons, List.length_nil, List.length_append, List.set, List.cons_append, List.nil_append] | rfl); (first | dsimp only [Env.putR, argEnv, pure1, newPtr, applyE, hset, List.length_cons, List.length_nil, List.length_append, List.set, List.cons_append, List.nil_append] | rfl))
        | refine ⟨_, _, _, _, _, rfl, rfl, rfl, Fits.mk (by first | exact Nat.le_of_ble_eq_true rfl | (dsimp only; omega)), rfl, ?_⟩
        | refine ⟨_, _, _, _, _, rfl, _, rfl, ?_⟩
        | refine ⟨SlB.mk (by first | omega | decide) (by first | omega | decide) (by first | omega | decide), ?_⟩
        | fail
      refine RT.of_eq ?_ ?_
      · rw [w2, e3]; rfl
      · rw [w1]; rfl
    · rw [if_neg hm] at ib
      have w0 : IntKind.i64.wrap (((bs s).size : Int) - (k : Int)) = ((pieceL s k).length : Int) := by
        rw [wrap_in (by omega)]
        unfold pieceL
        rw [upto_no hm, List.length_drop]; omega
      have w1 : IntKind.i64.wrap ((k : Int) + IntKind.i64.wrap (IntKind.i64.wrap (((bs s).size : Int) - (k : Int)) + 1)) = ((k + (pieceL s k).length + 1 : Nat) : Int) := by
        rw [w0, show IntKind.i64.wrap (((pieceL s k).length : Int) + 1) = ((pieceL s k).length : Int) + 1 from wrap_in (by omega), wrap_in (by omega)]; omega
      have w2 : IntKind.i64.wrap ((k : Int) + IntKind.i64.wrap (((bs s).size : Int) - (k : Int))) = ((k + (pieceL s k).length : Nat) : Int) := by rw [w0, wrap_in (by omega)]; omega
      repeat' first
        | refine brP.fD (by omega) ?_
        | refine (ib).call ?_
        | (apply Here.norm; (first | dsimp only [Env.putR, argEnv, pure1, newPtr, applyE, hset, List.length_cons, List.length_nil, List.length_append, List.set, List.cons_append, List.nil_append] | rfl); (first | dsimp only [Env.putR, argEnv, pure1, newPtr, applyE, hset, List.length_cons, List.length_nil, List.length_append, List.set, List.cons_append, List.nil_append] | rfl))
        | refine ⟨_, _, _, _, _, rfl, rfl, rfl, Fits.mk (by first | exact Nat.le_of_ble_eq_true rfl | (dsimp only; omega)), rfl, ?_⟩
        | refine ⟨_, _, _, _, _, rfl, _, rfl, ?_⟩
        | refine ⟨SlB.mk (by first | omega | decide) (by first | omega | decide) (by first | omega | decide), ?_⟩
        | fail
      refine RT.of_eq ?_ ?_
      · rw [w2, e3]; rfl
      · rw [w1]; rfl
  · rw [if_neg h, if_neg h]
    repeat' first
      | refine brP.tD (by omega) ?_
      | (apply Here.norm; (first | dsimp only [Env.putR, argEnv, pure1, newPtr, applyE, hset, List.length_cons, List.length_nil, List.length_append, List.set, List.cons_append, List.nil_append] | rfl); (first | dsimp only [Env.putR, argEnv, pure1, newPtr, applyE, hset, List.length_cons, List.length_nil, List.length_append, List.set, List.cons_append, List.nil_append] | rfl))
      | refine ⟨_, _, _, _, _, rfl, _, rfl, ?_⟩
      | fail
    exact RT.of_eq rfl rfl
theorem next_eff (s : List UInt8) (hs : s.length ≤ 1048576) (k : Nat) (hk : k ≤ 2000000) (w : Bool) (a b : Nat) (hab : a ≠ b) (nid : Nat) : EffC (C W0) I.line_cutter_1 [.pointer (some ⟨a, 0, none⟩), .pointer (some ⟨b, 0, none⟩)] nid
    ⟨some (nextV s k), [(a, atB k), (b, sB w s)], [(a, atB (nextAt s k))], []⟩ := by
  have hv : NF (nextV s k) := by unfold nextV; split <;> exact (AF.tuple (by simp [AF.string, AF.int, AF.bool])).nf
  exact EffC.of [⟨a, true, atB k, atB k, atB (nextAt s k)⟩, ⟨b, false, sB w s, sB false s, sB w s⟩]
    (next_call s hs k hk) ⟨fun e h => by rcases List.mem_singleton.mp h with rfl; exact fun _ => hab, fun _ h => (by cases h), trivial⟩
    ⟨BView.own rfl (by simp) (BTo.cells (fun z => z) (.cons (VTo.n rfl) .nil)), BView.ro (fun z => z) (.cons (VTo.n rfl) .nil), trivial⟩
    (.cons (VTo.ptr (by simp [fwd])) (.cons (VTo.ptr (by simp [fwd])) .nil))
    ⟨fun _ => ⟨BTo.cells (fun z => z) (.cons (VTo.n rfl) .nil), by simp⟩, fun z => (by cases z), trivial⟩ trivial (.nf hv)
end Go.Proofs.YtioahngbfdfcaaaDoor
