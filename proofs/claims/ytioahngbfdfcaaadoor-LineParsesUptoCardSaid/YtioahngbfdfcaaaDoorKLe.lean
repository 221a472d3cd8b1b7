import Derived.Test.YtioahngbfdfcaaaDoorKLd
set_option linter.unusedVariables false
set_option linter.unusedSimpArgs false
namespace Go.Proofs.YtioahngbfdfcaaaDoor
open Go Go.Den Go.RowKit
variable {W0 : World}
/-! line.Parse -/
theorem fields_eff (e : Ev) (s : List UInt8) (hs : s.length ≤ 1048576) (k : Nat) (hk : k ≤ s.length + 1) (b a c : Nat) (h1 : b ≠ a) (h2 : b ≠ c) (h3 : a ≠ c) (nid : Nat) :
    EffC (C W0) I.line_fields [.pointer (some ⟨b, 0, none⟩), .func (.func I.line_cutter_1) #[] #[.pointer (some ⟨a, 0, none⟩), .pointer (some ⟨c, 0, none⟩)]] nid
      ⟨some (.tuple #[.int .i64 (fieldsL e s k).2.1, .int .i64 (fieldsL e s k).2.2]), [(b, evB e), (a, atB k), (c, sB true s)], [(b, evB (fieldsL e s k).1), (a, .dead)], []⟩ :=
  EffC.of [⟨b, true, evB e, evB e, evB (fieldsL e s k).1⟩, ⟨a, true, atB k, atB k, .dead⟩, ⟨c, false, sB true s, sB false s, sB true s⟩]
    (fields_call e s hs k hk)
    ⟨fun x h => by
      rcases List.mem_cons.mp h with rfl | h
      · exact fun _ => h1
      · rcases List.mem_singleton.mp h with rfl; exact fun _ => h2, fun x h => by rcases List.mem_singleton.mp h with rfl; exact fun _ => h3, fun _ h => (by cases h), trivial⟩
    ⟨BView.own rfl (by simp) (BTo.nf (evC_nf _)), BView.own rfl (by simp) (BTo.cells (fun z => z) (.cons (VTo.n rfl) .nil)), BView.ro (fun z => z) (.cons (VTo.n rfl) .nil), trivial⟩
    (.cons (VTo.ptr (by simp [fwd])) (.cons (VTo.func rfl .nil (.cons (VTo.ptr (by simp [fwd])) (.cons (VTo.ptr (by simp [fwd])) .nil))) .nil))
    ⟨fun _ => ⟨BTo.nf (evC_nf _), by simp⟩, fun _ => ⟨trivial, by simp⟩, fun z => (by cases z), trivial⟩ trivial (VTo.n rfl)
def ev0 : Ev := ⟨[], 0, 0, false, [], 0, false, 0⟩
abbrev evV (e : Ev) : Value := .agg (evC e).toArray
def evNew (n : List UInt8) (k : Int) : Ev := ⟨n, k, 0, false, [], 1000000, false, 0⟩
/-- The value's place, the value, the kind's place, the kind, the place behind it. -/
def at1 (s : List UInt8) : Nat := (upto 58 s).length + 1
def val1 (s : List UInt8) : List UInt8 := pieceL s (at1 s)
def at2 (s : List UInt8) : Nat := at1 s + (val1 s).length + 1
def knd (s : List UInt8) : List UInt8 := pieceL s (at2 s)
def at3 (s : List UInt8) : Nat := at2 s + (knd s).length + 1
def evN (s : List UInt8) : Ev := evNew (cleanV (upto 58 s)).1 (kindL (knd s))
def tvL (s : List UInt8) : Ev × Bool := takeV (evN s) (val1 s)
def flL (s : List UInt8) : Ev × Int × Int := fieldsL (tvL s).1 s (at3 s)
/-- What Parse answers. -/
def parseL (s : List UInt8) : Ev × Int × Int :=
  if 1024 < s.length then (ev0, 0, 2)
  else if (58 : UInt8) ∈ s then
    (if (cleanV (upto 58 s)).2 = true then
      (if at2 s ≤ s.length then
        (if kindL (knd s) = 0 then (ev0, (at2 s : Int), 43)
        else if (tvL s).2 = true then (if (flL s).2.2 = 0 then ((flL s).1, 0, 0) else (ev0, (flL s).2))
        else (ev0, (at1 s : Int), 42))
      else (ev0, (s.length : Int), 43))
    else (ev0, 0, 41))
  else (ev0, (s.length : Int), 40)
theorem upto_le {b : UInt8} : ∀ {l : List UInt8}, b ∈ l → (upto b l).length < l.length
  | [], h => by cases h
  | c :: t, h => by
    unfold upto
    by_cases hc : c = b
    · simp [hc]
    · have := upto_le (l := t) (by rcases List.mem_cons.mp h with e | e; exact absurd e.symm hc; exact e)
      unfold upto at this
      simpa [hc] using this
theorem piece_le (s : List UInt8) (k : Nat) (h : k ≤ s.length) : k + (pieceL s k).length ≤ s.length := by
  have := upto_len 124 (s.drop k)
  rw [List.length_drop] at this
  unfold pieceL; omega
attribute [local irreducible] cleanV kindL takeV fieldsL
set_option maxRecDepth 20000 in
set_option maxHeartbeats 8000000 in
theorem line_Parse (hW : WF W0) (s : List UInt8) (hs : s.length ≤ 1048576) : PureF (C W0) I.line_Parse [.string (bs s)] (.tuple #[evV (parseL s).1, .int .i64 (parseL s).2.1, .int .i64 (parseL s).2.2]) := by
  have hsz := bs_size s
  have ib := strings_IndexByte (W0 := W0) s 58 58 rfl
  refine PureF.E (CallP.of_body (C_ok W0) B.line_Parse rfl rfl rfl ?_)
  unfold parseL
  by_cases h1 : 1024 < s.length
  · rw [if_pos h1]
    repeat' first
      | refine brP.tD (by omega) ?_
      | (apply Here.norm; (first | dsimp only [Env.putR, argEnv, pure1, newPtr, applyE, hset, List.length_cons, List.length_nil, List.length_append, List.set, List.cons_append, List.nil_append] | rfl); (first | dsimp only [Env.putR, argEnv, pure1, newPtr, applyE, hset, List.length_cons, List.length_nil, List.length_append, List.set, List.cons_append, List.nil_append] | rfl))
      | refine ⟨_, _, _, _, _, rfl, rfl, rfl, Fits.mk (by first | exact Nat.le_of_ble_eq_true rfl | (dsimp only; omega)), rfl, ?_⟩
      | refine ⟨_, _, _, _, _, rfl, Fits.mk (by first | exact Nat.le_of_ble_eq_true rfl | (dsimp only; omega)), _, rfl, ?_⟩
      | fail
    rfl
  · rw [if_neg h1]
    by_cases h2 : (58 : UInt8) ∈ s
    · rw [if_pos h2] at ib ⊢
      have ul := upto_le h2
      have e1 : (bs s).extract ((0 : Int).toNat) ((((upto 58 s).length : Nat) : Int).toNat) = bs (upto 58 s) := by
        rw [Int.toNat_natCast, bs_extract]
        simp [upto_take]
      have cl := name_Clean hW (upto 58 s) (by omega)
      rw [← e1] at cl
      have w1 : IntKind.i64.wrap (((upto 58 s).length : Int) + 1) = ((at1 s : Nat) : Int) := by unfold at1; rw [wrap_in (by omega)]; omega
      have a1 : at1 s ≤ s.length := ul
      have pv := piece_le s (at1 s) a1
      by_cases h3 : (cleanV (upto 58 s)).2 = true
      · rw [if_pos h3]
        rw [h3] at cl
        have n1 : ∀ nid, EffC (C W0) I.line_cutter_1 [.pointer (some ⟨2, 0, none⟩), .pointer (some ⟨1, 0, none⟩)] nid ⟨some (.tuple #[.string (bs (val1 s)), .int .i64 (at1 s), .bool true]), [(2, atB (at1 s)), (1, sB true s)], [(2, atB (at2 s))], []⟩ := fun nid => by
          have h := next_eff (W0 := W0) s hs (at1 s) (by omega) true 2 1 (by decide) nid
          rw [show nextV s (at1 s) = .tuple #[.string (bs (val1 s)), .int .i64 (at1 s), .bool true] from if_pos a1, show nextAt s (at1 s) = at2 s from if_pos a1] at h
          exact h
        repeat' first
          | refine brP.fD (by omega) ?_
          | refine (ib).call ?_
          | refine (cl).call ?_
          | refine (CallP.of_body (C_ok W0) B.line_cutter rfl rfl rfl ?_)
          | (apply Here.norm; (first | dsimp only [Env.putR, argEnv, pure1, newPtr, applyE, hset, List.length_cons, List.length_nil, List.length_append, List.set, List.cons_append, List.nil_append] | rfl); (first | dsimp only [Env.putR, argEnv, pure1, newPtr, applyE, hset, List.length_cons, List.length_nil, List.length_append, List.set, List.cons_append, List.nil_append] | rfl))
          | refine ⟨_, _, _, _, _, rfl, rfl, rfl, Fits.mk (by first | exact Nat.le_of_ble_eq_true rfl | (dsimp only; omega)), rfl, ?_⟩
          | refine ⟨SlB.mk (by first | omega | decide) (by first | omega | decide) (by first | omega | decide), ?_⟩
          | refine ⟨_, rfl, ?_⟩
          | fail
        rw [w1]
        by_cases h4 : at2 s ≤ s.length
        · rw [if_pos h4]
          have pk := piece_le s (at2 s) h4
          have n2 : ∀ nid, EffC (C W0) I.line_cutter_1 [.pointer (some ⟨2, 0, none⟩), .pointer (some ⟨1, 0, none⟩)] nid ⟨some (.tuple #[.string (bs (knd s)), .int .i64 (at2 s), .bool true]), [(2, atB (at2 s)), (1, sB true s)], [(2, atB (at3 s))], []⟩ := fun nid => by
            have h := next_eff (W0 := W0) s hs (at2 s) (by omega) true 2 1 (by decide) nid
            rw [show nextV s (at2 s) = .tuple #[.string (bs (knd s)), .int .i64 (at2 s), .bool true] from if_pos h4, show nextAt s (at2 s) = at3 s from if_pos h4] at h
            exact h
          have kd := line_kindOf (W0 := W0) (knd s)
          by_cases h5 : kindL (knd s) = 0
          · rw [if_pos h5]
            repeat' first
              | refine brP.tD (by omega) ?_
              | refine (n1 _).call (by first | exact trivial | exact ⟨rfl, trivial⟩ | exact ⟨rfl, rfl, trivial⟩ | exact ⟨rfl, rfl, rfl, trivial⟩) ?_
              | refine (n2 _).call (by first | exact trivial | exact ⟨rfl, trivial⟩ | exact ⟨rfl, rfl, trivial⟩ | exact ⟨rfl, rfl, rfl, trivial⟩) ?_
              | refine (kd).call ?_
              | (apply Here.norm; (first | dsimp only [Env.putR, argEnv, pure1, newPtr, applyE, hset, List.length_cons, List.length_nil, List.length_append, List.set, List.cons_append, List.nil_append] | rfl); (first | dsimp only [Env.putR, argEnv, pure1, newPtr, applyE, hset, List.length_cons, List.length_nil, List.length_append, List.set, List.cons_append, List.nil_append] | rfl))
              | refine ⟨_, _, _, _, _, rfl, rfl, rfl, Fits.mk (by first | exact Nat.le_of_ble_eq_true rfl | (dsimp only; omega)), rfl, ?_⟩
              | refine ⟨_, _, _, _, _, rfl, _, rfl, ?_⟩
              | refine ⟨_, _, _, _, _, rfl, Fits.mk (by first | exact Nat.le_of_ble_eq_true rfl | (dsimp only; omega)), _, rfl, ?_⟩
              | refine ⟨by decide, ?_⟩
              | refine ⟨_, rfl, ?_⟩
              | fail
            rfl
          · rw [if_neg h5]
            have tk := fun nid => take_eff (W0 := W0) (evN s) (val1 s) (by unfold val1; omega) 3 nid
            by_cases h6 : (tvL s).2 = true
            · rw [if_pos h6]
              have h6' : (takeV (evN s) (val1 s)).2 = true := h6
              rw [h6'] at tk
              have fl := fun nid => fields_eff (W0 := W0) (tvL s).1 s hs (at3 s) (by unfold at3 knd; omega) 3 2 1 (by decide) (by decide) (by decide) nid
              by_cases h7 : (flL s).2.2 = 0
              · rw [if_pos h7]
                have h7' : (fieldsL (tvL s).1 s (at3 s)).2.2 = 0 := h7
                rw [h7'] at fl
                repeat' first
                  | refine brP.fD (by omega) ?_
                  | refine (n1 _).call (by first | exact trivial | exact ⟨rfl, trivial⟩ | exact ⟨rfl, rfl, trivial⟩ | exact ⟨rfl, rfl, rfl, trivial⟩) ?_
                  | refine (n2 _).call (by first | exact trivial | exact ⟨rfl, trivial⟩ | exact ⟨rfl, rfl, trivial⟩ | exact ⟨rfl, rfl, rfl, trivial⟩) ?_
                  | refine (kd).call ?_
                  | refine (tk _).call (by first | exact trivial | exact ⟨rfl, trivial⟩ | exact ⟨rfl, rfl, trivial⟩ | exact ⟨rfl, rfl, rfl, trivial⟩) ?_
                  | refine (fl _).call (by first | exact trivial | exact ⟨rfl, trivial⟩ | exact ⟨rfl, rfl, trivial⟩ | exact ⟨rfl, rfl, rfl, trivial⟩) ?_
                  | (apply Here.norm; (first | dsimp only [Env.putR, argEnv, pure1, newPtr, applyE, hset, List.length_cons, List.length_nil, List.length_append, List.set, List.cons_append, List.nil_append] | rfl); (first | dsimp only [Env.putR, argEnv, pure1, newPtr, applyE, hset, List.length_cons, List.length_nil, List.length_append, List.set, List.cons_append, List.nil_append] | rfl))
                  | refine ⟨_, _, _, _, _, rfl, rfl, rfl, Fits.mk (by first | exact Nat.le_of_ble_eq_true rfl | (dsimp only; omega)), rfl, ?_⟩
                  | refine ⟨_, _, _, _, _, rfl, _, rfl, ?_⟩
                  | refine ⟨_, _, _, _, _, rfl, Fits.mk (by first | exact Nat.le_of_ble_eq_true rfl | (dsimp only; omega)), _, rfl, ?_⟩
                  | refine ⟨by decide, ?_⟩
                  | refine ⟨_, rfl, ?_⟩
                  | fail
                rfl
              · rw [if_neg h7]
                have h7' : ¬ (fieldsL (tvL s).1 s (at3 s)).2.2 = 0 := h7
                repeat' first
                  | refine brP.fD (by omega) ?_
                  | refine brP.tN (by omega) ?_
                  | refine (n1 _).call (by first | exact trivial | exact ⟨rfl, trivial⟩ | exact ⟨rfl, rfl, trivial⟩ | exact ⟨rfl, rfl, rfl, trivial⟩) ?_
                  | refine (n2 _).call (by first | exact trivial | exact ⟨rfl, trivial⟩ | exact ⟨rfl, rfl, trivial⟩ | exact ⟨rfl, rfl, rfl, trivial⟩) ?_
                  | refine (kd).call ?_
                  | refine (tk _).call (by first | exact trivial | exact ⟨rfl, trivial⟩ | exact ⟨rfl, rfl, trivial⟩ | exact ⟨rfl, rfl, rfl, trivial⟩) ?_
                  | refine (fl _).call (by first | exact trivial | exact ⟨rfl, trivial⟩ | exact ⟨rfl, rfl, trivial⟩ | exact ⟨rfl, rfl, rfl, trivial⟩) ?_
                  | (apply Here.norm; (first | dsimp only [Env.putR, argEnv, pure1, newPtr, applyE, hset, List.length_cons, List.length_nil, List.length_append, List.set, List.cons_append, List.nil_append] | rfl); (first | dsimp only [Env.putR, argEnv, pure1, newPtr, applyE, hset, List.length_cons, List.length_nil, List.length_append, List.set, List.cons_append, List.nil_append] | rfl))
                  | refine ⟨_, _, _, _, _, rfl, rfl, rfl, Fits.mk (by first | exact Nat.le_of_ble_eq_true rfl | (dsimp only; omega)), rfl, ?_⟩
                  | refine ⟨_, _, _, _, _, rfl, _, rfl, ?_⟩
                  | refine ⟨_, _, _, _, _, rfl, Fits.mk (by first | exact Nat.le_of_ble_eq_true rfl | (dsimp only; omega)), _, rfl, ?_⟩
                  | refine ⟨by decide, ?_⟩
                  | refine ⟨_, rfl, ?_⟩
                  | fail
                rfl
            · rw [if_neg h6]
              have h6' : (takeV (evN s) (val1 s)).2 = false := by simpa [tvL] using h6
              rw [h6'] at tk
              repeat' first
                | refine brP.fD (by omega) ?_
                | refine (n1 _).call (by first | exact trivial | exact ⟨rfl, trivial⟩ | exact ⟨rfl, rfl, trivial⟩ | exact ⟨rfl, rfl, rfl, trivial⟩) ?_
                | refine (n2 _).call (by first | exact trivial | exact ⟨rfl, trivial⟩ | exact ⟨rfl, rfl, trivial⟩ | exact ⟨rfl, rfl, rfl, trivial⟩) ?_
                | refine (kd).call ?_
                | refine (tk _).call (by first | exact trivial | exact ⟨rfl, trivial⟩ | exact ⟨rfl, rfl, trivial⟩ | exact ⟨rfl, rfl, rfl, trivial⟩) ?_
                | (apply Here.norm; (first | dsimp only [Env.putR, argEnv, pure1, newPtr, applyE, hset, List.length_cons, List.length_nil, List.length_append, List.set, List.cons_append, List.nil_append] | rfl); (first | dsimp only [Env.putR, argEnv, pure1, newPtr, applyE, hset, List.length_cons, List.length_nil, List.length_append, List.set, List.cons_append, List.nil_append] | rfl))
                | refine ⟨_, _, _, _, _, rfl, rfl, rfl, Fits.mk (by first | exact Nat.le_of_ble_eq_true rfl | (dsimp only; omega)), rfl, ?_⟩
                | refine ⟨_, _, _, _, _, rfl, _, rfl, ?_⟩
                | refine ⟨_, _, _, _, _, rfl, Fits.mk (by first | exact Nat.le_of_ble_eq_true rfl | (dsimp only; omega)), _, rfl, ?_⟩
                | refine ⟨by decide, ?_⟩
                | refine ⟨_, rfl, ?_⟩
                | fail
              rfl
        · rw [if_neg h4]
          have n2 : ∀ nid, EffC (C W0) I.line_cutter_1 [.pointer (some ⟨2, 0, none⟩), .pointer (some ⟨1, 0, none⟩)] nid ⟨some (.tuple #[.string ⟨#[]⟩, .int .i64 0, .bool false]), [(2, atB (at2 s)), (1, sB true s)], [(2, atB (at2 s))], []⟩ := fun nid => by
            have h := next_eff (W0 := W0) s hs (at2 s) (by unfold at2 val1; omega) true 2 1 (by decide) nid
            rw [show nextV s (at2 s) = .tuple #[.string ⟨#[]⟩, .int .i64 0, .bool false] from if_neg h4, show nextAt s (at2 s) = at2 s from if_neg h4] at h
            exact h
          repeat' first
            | refine (n1 _).call (by first | exact trivial | exact ⟨rfl, trivial⟩ | exact ⟨rfl, rfl, trivial⟩ | exact ⟨rfl, rfl, rfl, trivial⟩) ?_
            | refine (n2 _).call (by first | exact trivial | exact ⟨rfl, trivial⟩ | exact ⟨rfl, rfl, trivial⟩ | exact ⟨rfl, rfl, rfl, trivial⟩) ?_
            | (apply Here.norm; (first | dsimp only [Env.putR, argEnv, pure1, newPtr, applyE, hset, List.length_cons, List.length_nil, List.length_append, List.set, List.cons_append, List.nil_append] | rfl); (first | dsimp only [Env.putR, argEnv, pure1, newPtr, applyE, hset, List.length_cons, List.length_nil, List.length_append, List.set, List.cons_append, List.nil_append] | rfl))
            | refine ⟨_, _, _, _, _, rfl, rfl, rfl, Fits.mk (by first | exact Nat.le_of_ble_eq_true rfl | (dsimp only; omega)), rfl, ?_⟩
            | refine ⟨_, _, _, _, _, rfl, Fits.mk (by first | exact Nat.le_of_ble_eq_true rfl | (dsimp only; omega)), _, rfl, ?_⟩
            | refine ⟨_, rfl, ?_⟩
            | fail
          rw [hsz]; rfl
      · rw [if_neg h3]
        rw [show (cleanV (upto 58 s)).2 = false by simpa using h3] at cl
        repeat' first
          | refine brP.fD (by omega) ?_
          | refine (ib).call ?_
          | refine (cl).call ?_
          | (apply Here.norm; (first | dsimp only [Env.putR, argEnv, pure1, newPtr, applyE, hset, List.length_cons, List.length_nil, List.length_append, List.set, List.cons_append, List.nil_append] | rfl); (first | dsimp only [Env.putR, argEnv, pure1, newPtr, applyE, hset, List.length_cons, List.length_nil, List.length_append, List.set, List.cons_append, List.nil_append] | rfl))
          | refine ⟨_, _, _, _, _, rfl, rfl, rfl, Fits.mk (by first | exact Nat.le_of_ble_eq_true rfl | (dsimp only; omega)), rfl, ?_⟩
          | refine ⟨_, _, _, _, _, rfl, Fits.mk (by first | exact Nat.le_of_ble_eq_true rfl | (dsimp only; omega)), _, rfl, ?_⟩
          | refine ⟨SlB.mk (by first | omega | decide) (by first | omega | decide) (by first | omega | decide), ?_⟩
          | refine ⟨_, rfl, ?_⟩
          | fail
        rfl
    · rw [if_neg h2] at ib ⊢
      repeat' first
        | refine brP.fD (by omega) ?_
        | refine (ib).call ?_
        | (apply Here.norm; (first | dsimp only [Env.putR, argEnv, pure1, newPtr, applyE, hset, List.length_cons, List.length_nil, List.length_append, List.set, List.cons_append, List.nil_append] | rfl); (first | dsimp only [Env.putR, argEnv, pure1, newPtr, applyE, hset, List.length_cons, List.length_nil, List.length_append, List.set, List.cons_append, List.nil_append] | rfl))
        | refine ⟨_, _, _, _, _, rfl, rfl, rfl, Fits.mk (by first | exact Nat.le_of_ble_eq_true rfl | (dsimp only; omega)), rfl, ?_⟩
        | refine ⟨_, _, _, _, _, rfl, Fits.mk (by first | exact Nat.le_of_ble_eq_true rfl | (dsimp only; omega)), _, rfl, ?_⟩
        | fail
      rw [hsz]; rfl
end Go.Proofs.YtioahngbfdfcaaaDoor
