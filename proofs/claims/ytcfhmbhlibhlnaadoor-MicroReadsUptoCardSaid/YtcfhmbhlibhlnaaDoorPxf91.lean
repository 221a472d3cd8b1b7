-- Printed by this session's own pp.py (wip/tool) out of the translation.
import Derived.Test.YtcfhmbhlibhlnaaDoorPx0
import Derived.Lib.OthersKept
import Derived.Laws.RangeAny
namespace Go.Proofs.YtcfhmbhlibhlnaaDoor.P
open Go.RowKit Go.Proofs.YtcfhmbhlibhlnaaDoorW.PrintWords Go.Proofs.YtcfhmbhlibhlnaaDoorW.PrintLast Go.Proofs.YtcfhmbhlibhlnaaDoorW.PrintMore Go.Proofs.YtcfhmbhlibhlnaaDoor.Mine
attribute [local go_sem] ext71 ext79 eqA61 eqA62
attribute [local go_sem] max2_int min2_int max_two min_two max_three min_three max_four min_four   -- for this text's walks alone
set_option linter.unusedVariables false
set_option linter.unusedSimpArgs false

/-! ### micro_read: function 91 -/
/-- One byte more: below 0, the digits, the point, how many ahead of it, how many behind. -/
def rdStep (i : Nat) (c : Int) : Bool × List Int × Bool × Int × Int → Option (Bool × List Int × Bool × Int × Int)
  | (b, ds, pt, wh, fr) =>
    if c = 45 ∧ i = 0 then some (true, ds, pt, wh, fr)
    else if 48 ≤ c ∧ c ≤ 57 then some (b, ds ++ [c], pt, if pt = true then wh else wh + 1, if pt = true then fr + 1 else fr)
    else if c = 46 ∧ pt = false ∧ 0 < wh then some (b, ds, true, wh, fr) else none
def rdL : List UInt8 → Nat → Bool × List Int × Bool × Int × Int → Option (Bool × List Int × Bool × Int × Int)
  | [], _, st => some st
  | x :: t, i, st => (rdStep i (x.toNat : Int) st).bind (rdL t (i + 1))
def rdEnd : Option (Bool × List Int × Bool × Int × Int) → Bool × ByteArray × Int × Bool
  | none => (false, ⟨#[]⟩, 0, false)
  | some (b, ds, pt, wh, fr) => if wh = 0 ∨ pt = true ∧ fr = 0 then (false, ⟨#[]⟩, 0, false) else (b, strOfNums ds, fr, true)
def micro_read.f (a0 : ByteArray) : Option (Bool × ByteArray × Int × Bool) := if a0.size ≤ 1073741824 then some (rdEnd (rdL a0.data.toList 0 (false, [], false, 0, 0))) else none
theorem own_ne_cells {w : World} {B e size n : Nat} {v : Value} {xs : List Value} {k t : Nat} {cs : Array Value} {fr : Nat × Nat} (h : w.ownsRow B e size v n xs) (hk : w.heap[k]? = some (.cells cs t fr)) (hte : t ≠ e) : some k ≠ v.ownBlock := by
  rcases h.2 with ⟨rfl, _⟩ | ⟨g, cap, cur, rfl, hb, hg, rest⟩
  · simp [Value.ownBlock]
  · intro e
    simp only [Value.ownBlock, Option.some.injEq] at e
    subst e
    rw [hk] at hg
    injection hg with hg; injection hg with _ h2 _
    exact hte h2
theorem own_ne_iter {w : World} {B e size n : Nat} {v : Value} {xs : List Value} {k : Nat} {s : ByteArray} {pos : Nat} (h : w.ownsRow B e size v n xs) (hk : w.heap[k]? = some (.stringIter s pos)) : some k ≠ v.ownBlock := by
  rcases h.2 with ⟨rfl, _⟩ | ⟨g, cap, cur, rfl, hb, hg, rest⟩
  · simp [Value.ownBlock]
  · intro e
    simp only [Value.ownBlock, Option.some.injEq] at e
    subst e
    rw [hk] at hg
    cases hg
theorem own_iterAt {w : World} {B e size n : Nat} {v : Value} {xs : List Value} {k : Nat} {s : ByteArray} {pos : Nat} (h : w.ownsRow B e size v n xs) (hk : w.heap[k]? = some (.stringIter s pos)) (pos' : Nat) : (w.iterAt k s pos').ownsRow B e size v n xs := by
  refine ⟨h.1, ?_⟩
  rcases h.2 with h0 | ⟨g, cap, cur, hv, hb, hg, rest⟩
  · exact .inl h0
  · refine .inr ⟨g, cap, cur, hv, hb, ?_, rest⟩
    rw [Lib.iterAt_other _ _ _ _ _ (fun e => by subst e; rw [hk] at hg; cases hg)]
    exact hg
theorem own_set {w : World} {B e size n : Nat} {v : Value} {xs : List Value} {k t i : Nat} {cs : Array Value} {fr : Nat × Nat} {u : Value} (h : w.ownsRow B e size v n xs) (hk : w.heap[k]? = some (.cells cs t fr)) (hte : t ≠ e) : (w.setCell ⟨k, i, none⟩ u).ownsRow B e size v n xs := by
  refine ⟨h.1, ?_⟩
  rcases h.2 with h0 | ⟨g, cap, cur, hv, hb, hg, rest⟩
  · exact .inl h0
  · refine .inr ⟨g, cap, cur, hv, hb, ?_, rest⟩
    rw [Below.heap_setCell w ⟨k, i, none⟩ u g (fun e => by subst e; rw [hk] at hg; injection hg with hg; injection hg with _ h2 _; exact hte h2)]
    exact hg
theorem rdL_at (s : ByteArray) (pos : Nat) (h : pos < s.size) (st) : rdL (s.data.toList.drop pos) pos st = (rdStep pos ((s[pos]'h).toNat : Int) st).bind (rdL (s.data.toList.drop (pos + 1)) (pos + 1)) := by
  rw [List.drop_eq_getElem_cons (show pos < s.data.toList.length by rw [Array.length_toList]; exact h)]
  rfl
theorem rdL_end (s : ByteArray) (pos : Nat) (h : ¬ pos < s.size) (st) : rdL (s.data.toList.drop pos) pos st = some st := by
  rw [List.drop_of_length_le (show s.data.toList.length ≤ pos by rw [Array.length_toList]; exact Nat.le_of_not_lt h)]
  rfl
theorem rd_start (w : World) (o1 o2 : Obj) (s : ByteArray) : (((w.alloc o1).alloc o2).iter s 0).heap[w.heap.size]? = some o1 ∧ (((w.alloc o1).alloc o2).iter s 0).heap[w.heap.size + 1]? = some o2 ∧
    (((w.alloc o1).alloc o2).iter s 0).heap[w.heap.size + 2]? = some (.stringIter s 0) ∧ Below w.heap.size w (((w.alloc o1).alloc o2).iter s 0) := by
  have e : (((w.alloc o1).alloc o2).iter s 0).heap = ((w.heap.push o1).push o2).push (.stringIter s 0) := rfl
  refine ⟨?_, ?_, ?_, ?_⟩
  · rw [e, Array.getElem?_push, if_neg (by simp; omega), Array.getElem?_push, if_neg (by simp), Array.getElem?_push, if_pos rfl]
  · rw [e, Array.getElem?_push, if_neg (by simp), Array.getElem?_push, if_pos (by simp)]
  · rw [e, Array.getElem?_push, if_pos (by simp)]
  · exact below_alloc (below_alloc (below_alloc (Below.refl _ w) o1) o2) (.stringIter s 0)
theorem iterPos_is {w : World} {k : Nat} {s : ByteArray} {p : Nat} (h : w.heap[k]? = some (.stringIter s p)) : w.iterPos k = p := by simp [World.iterPos, h]
theorem iter_far {w : World} {k g i p : Nat} {s : ByteArray} (h : w.heap[k]? = some (.stringIter s p)) (hk : k ≠ g) (u : Value) : (w.setCell ⟨g, i, none⟩ u).heap[k]? = some (.stringIter s p) := (Below.heap_setCell w ⟨g, i, none⟩ u k hk).trans h
/-- What holds at a round's head. -/
def RdRel (s : ByteArray) (w : World) (R0 : Option (Bool × List Int × Bool × Int × Int)) (v p wh : Value) (wr : World) : Prop :=
  ∃ (pos : Nat) (b : Bool) (ds : List Int) (pt : Bool) (whn fr : Int), p = .bool pt ∧ wh = .int .i64 whn ∧ 0 ≤ whn ∧ whn ≤ pos ∧ 0 ≤ fr ∧ fr ≤ pos ∧ ds.length ≤ pos ∧ pos ≤ s.size ∧
    wr.ownsRow w.heap.size 5 1 v ds.length (nums .u8 ds) ∧
    wr.heap[w.heap.size]? = some (.cells #[.bool false, .string ⟨#[]⟩, .int .i64 0] 99 (0, 0)) ∧
    wr.heap[w.heap.size + 1]? = some (.cells #[.bool b, .string ⟨#[]⟩, .int .i64 fr] 99 (0, 0)) ∧
    wr.heap[w.heap.size + 2]? = some (.stringIter s pos) ∧ Below w.heap.size w wr ∧ rdL (s.data.toList.drop pos) pos (b, ds, pt, whn, fr) = R0
set_option maxHeartbeats 8000000 in
set_option maxRecDepth 100000 in
theorem rd_walk (s : ByteArray) (w : World) (hs : s.size ≤ 1073741824) :
    Calls Tryd.prog 91 #[.string s] w fun e w' => e = .returned (.tuple #[.agg #[.bool (rdEnd (rdL s.data.toList 0 (false, [], false, 0, 0))).1, .string (rdEnd (rdL s.data.toList 0 (false, [], false, 0, 0))).2.1, .int .i64 (rdEnd (rdL s.data.toList 0 (false, [], false, 0, 0))).2.2.1], .bool (rdEnd (rdL s.data.toList 0 (false, [], false, 0, 0))).2.2.2]) ∧ Below w.heap.size w w' := by
  obtain ⟨R0, hR0⟩ : ∃ R0, rdL s.data.toList 0 (false, [], false, 0, 0) = R0 := ⟨_, rfl⟩
  rw [hR0]
  have HR := Aside0.mk hR0
  clear hR0
  have hu99 := Tryd.underlying99
  go_enter Tryd.func91, Tryd.ntmps91
  go_wp2
  go_loopw [5, 6, 7] (fun v p wh wr => RdRel s w R0 v p wh wr) (fun _ _ _ wr => s.size - wr.iterPos (w.heap.size + 2))
  case atStart =>
    refine ⟨0, false, [], false, 0, 0, rfl, rfl, by omega, by omega, by omega, by omega, by simp, by omega, ⟨rfl, .inl ⟨rfl, rfl⟩⟩, ?_, ?_, ?_, ?_, HR.out⟩
    · exact (rd_start w _ _ s).1
    · exact (rd_start w _ _ s).2.1
    · exact (rd_start w _ _ s).2.2.1
    · exact (rd_start w _ _ s).2.2.2
  case round =>
    obtain ⟨pos, b, ds, pt, whn, fr, rfl, rfl, h1, h2, h3, h4, h5, h6, ho, hb0, hb1, hit, hbw, hrd⟩ := hrel
    by_cases hp : pos < s.size
    · obtain ⟨W2, hW2⟩ : ∃ W2, W2 = wr.iterAt (w.heap.size + 2) s (pos + (Utf8.decode s pos).2) := ⟨_, rfl⟩
      have hnx : ∀ ty, (Instr.next (.pointer (some ⟨w.heap.size + 2, 0, none⟩)) true ty).run Tryd.prog wr = .ok (.tuple #[.bool true, .int .i64 pos, .int .i32 (Utf8.decode s pos).1]) W2 := fun ty => hW2 ▸ Lib.run_next_any_at wr (w.heap.size + 2) s pos ty hit hp
      have ho2 : W2.ownsRow w.heap.size 5 1 _ ds.length (nums .u8 ds) := hW2 ▸ own_iterAt ho hit _
      have hc0 : W2.heap[w.heap.size]? = _ := hW2 ▸ (Lib.iterAt_other wr (w.heap.size + 2) w.heap.size s _ (by omega)).trans hb0
      have hc1 : W2.heap[w.heap.size + 1]? = _ := hW2 ▸ (Lib.iterAt_other wr (w.heap.size + 2) (w.heap.size + 1) s _ (by omega)).trans hb1
      have hit2 : W2.heap[w.heap.size + 2]? = _ := hW2 ▸ Lib.iterAt_heap wr (w.heap.size + 2) s pos (pos + (Utf8.decode s pos).2) hit
      have hbw2 : Below w.heap.size w W2 := hW2 ▸ Lib.below_iterAt hbw (k := w.heap.size + 2) (by omega) s _
      have hip := iterPos_is hit
      clear hW2 ho hb0 hb1 hit hbw
      have m1 : w.heap.size + 2 ≠ w.heap.size + 1 := by omega
      rw [rdL_at s pos hp] at hrd
      have n1 : w.heap.size + 1 ≠ w.heap.size := by omega
      have r0 := (blk_cell hc0 0).trans rfl
      have r1 := (blk_cell hc0 1).trans rfl
      have r2 := (blk_cell hc0 2).trans rfl
      have f0 := blk_frozen hc0 0
      have f1 := blk_frozen hc0 1
      have f2 := blk_frozen hc0 2
      have d0 := (blk_cell hc1 0).trans rfl
      have d2 := (blk_cell hc1 2).trans rfl
      have g0 := blk_frozen hc1 0
      have g2 := blk_frozen hc1 2
      by_cases ha : (s[pos]'hp).toNat < 128
      · have hdec := decode_ascii s pos hp ha
        have e1 : ((Utf8.decode s pos).1 : Int) = ((s[pos]'hp).toNat : Int) := by rw [hdec]
        have e2 : pos + (Utf8.decode s pos).2 = pos + 1 := by rw [hdec]
        rw [e2] at hit2
        rw [e1] at hnx
        clear hdec e1 e2
        generalize ((s[pos]'hp).toNat : Int) = c at *
        by_cases k1 : c = 45
        · by_cases k2 : pos = 0
          · subst k1
            subst k2
            have t2 : (((0 : Nat) : Int) == 0) = true := rfl
            go_wp2
            go_roundw
            case rel => exact ⟨1, true, ds, pt, whn, fr, rfl, rfl, h1, by omega, h3, by omega, by omega, by omega, own_set ho2 hc1 (by decide), blk_far hc0 (p := ⟨w.heap.size + 1, 0, none⟩) n1.symm _, blk_put hc1 0 _ rfl, iter_far hit2 m1 _, below_set hbw2 (Nat.le_succ _), hrd⟩
            case measure => rw [iterPos_is (iter_far hit2 m1 _), hip]; omega
          · subst k1
            have t2 : ((pos : Int) == 0) = false := beq_eq_false_iff_ne.mpr (by omega)
            go_wp2
            refine bodyPost_ret (results_ct rfl _ _ w.heap.size 99 #[.bool false, .string ⟨#[]⟩, .int .i64 0] (0, 0) _ rfl (blk_put (cs := #[.bool false, .string ⟨#[]⟩, .int .i64 0]) (blk_put (cs := #[.bool false, .string ⟨#[]⟩, .int .i64 0]) (blk_put hc0 0 _ rfl) 1 _ rfl) 2 _ rfl) Tryd.underlying99 rfl (by kernel_rfl)) rfl ?_
            rw [show rdEnd R0 = (false, ⟨#[]⟩, 0, false) by rw [← hrd]; simp [rdStep, rdEnd, k2]]
            exact ⟨rfl, below_set (below_set (below_set hbw2 (Nat.le_refl _)) (Nat.le_refl _)) (Nat.le_refl _)⟩
        · have t1 : (c == 45) = false := beq_eq_false_iff_ne.mpr k1
          by_cases k3 : 48 ≤ c
          · by_cases k4 : c ≤ 57
            · have t3 : decide (48 ≤ c) = true := decide_eq_true k3
              have t4 : decide (c ≤ 57) = true := decide_eq_true k4
              have t5 : IntKind.u8.wrap c = c := by rw [show IntKind.u8.wrap c = c % 256 by simp [IntKind.wrap, IntKind.bits, IntKind.signed]]; omega
              cases pt with
              | false =>
                clear r0 r1 r2 f0 f1 f2 d0 d2 g0 g2
                go_wp2_with (at_builtin; refine print_append_cells w.heap.size rfl (.tmp 32) (.tmp 35) 111 5 (.int .u8 0) 1 1 rfl Tryd.underlying111 (by kernel_rfl) rfl (by decide) (by decide) _ ds.length (nums .u8 ds) [.int .u8 c] rfl rfl rfl (by intro u hu; simp at hu; subst hu; rfl) ho2 hbw2 hbw2.size (by omega) ?_; intro v1 w1 hown hb hg hat; have q0 := blk_grown hc0 hg (own_ne_cells ho2 hc0 (by decide)); have q1 := blk_grown hc1 hg (own_ne_cells ho2 hc1 (by decide)); have q2 := blk_grown hit2 hg (own_ne_iter ho2 hit2); have d2 := (blk_cell q1 2).trans rfl; have g2 := blk_frozen q1 2; clear hg hat)
                have hnum : nums .u8 ds ++ [.int .u8 c] = nums .u8 (ds ++ [c]) := by simp [nums]
                have hl1 : ds.length + 1 = (ds ++ [c]).length := by simp
                rw [hnum, hl1] at hown
                have hrd' : rdL (s.data.toList.drop (pos + 1)) (pos + 1) (b, ds ++ [c], false, whn + 1, fr) = R0 := by rw [← hrd]; simp [rdStep, k1, k3, k4]
                go_roundw
                case rel => exact ⟨pos + 1, b, ds ++ [c], false, whn + 1, fr, rfl, rfl, by omega, by omega, h3, by omega, by simp; omega, by omega, hown, q0, q1, q2, hb, hrd'⟩
                case measure => rw [iterPos_is q2, hip]; omega
              | true =>
                clear r0 r1 r2 f0 f1 f2 d0 d2 g0 g2
                go_wp2_with (at_builtin; refine print_append_cells w.heap.size rfl (.tmp 32) (.tmp 35) 111 5 (.int .u8 0) 1 1 rfl Tryd.underlying111 (by kernel_rfl) rfl (by decide) (by decide) _ ds.length (nums .u8 ds) [.int .u8 c] rfl rfl rfl (by intro u hu; simp at hu; subst hu; rfl) ho2 hbw2 hbw2.size (by omega) ?_; intro v1 w1 hown hb hg hat; have q0 := blk_grown hc0 hg (own_ne_cells ho2 hc0 (by decide)); have q1 := blk_grown hc1 hg (own_ne_cells ho2 hc1 (by decide)); have q2 := blk_grown hit2 hg (own_ne_iter ho2 hit2); have d2 := (blk_cell q1 2).trans rfl; have g2 := blk_frozen q1 2; clear hg hat)
                have hnum : nums .u8 ds ++ [.int .u8 c] = nums .u8 (ds ++ [c]) := by simp [nums]
                have hl1 : ds.length + 1 = (ds ++ [c]).length := by simp
                rw [hnum, hl1] at hown
                have hrd' : rdL (s.data.toList.drop (pos + 1)) (pos + 1) (b, ds ++ [c], true, whn, fr + 1) = R0 := by rw [← hrd]; simp [rdStep, k1, k3, k4]
                go_roundw
                case rel => exact ⟨pos + 1, b, ds ++ [c], true, whn, fr + 1, rfl, rfl, h1, by omega, by omega, by omega, by simp; omega, by omega, own_set hown q1 (by decide), blk_far q0 (p := ⟨w.heap.size + 1, 2, none⟩) n1.symm _, blk_put q1 2 _ rfl, iter_far q2 m1 _, below_set hb (Nat.le_succ _), hrd'⟩
                case measure => rw [iterPos_is (iter_far q2 m1 _), hip]; omega
            · have t3 : decide (48 ≤ c) = true := decide_eq_true k3
              have t4 : decide (c ≤ 57) = false := decide_eq_false k4
              have nd : ¬ (48 ≤ c ∧ c ≤ 57) := fun h => k4 h.2
              by_cases k5 : c = 46
              · exact absurd k5 (by omega)
              · have t6 : (c == 46) = false := beq_eq_false_iff_ne.mpr k5
                go_wp2
                refine bodyPost_ret (results_ct rfl _ _ w.heap.size 99 #[.bool false, .string ⟨#[]⟩, .int .i64 0] (0, 0) _ rfl (blk_put (cs := #[.bool false, .string ⟨#[]⟩, .int .i64 0]) (blk_put (cs := #[.bool false, .string ⟨#[]⟩, .int .i64 0]) (blk_put hc0 0 _ rfl) 1 _ rfl) 2 _ rfl) Tryd.underlying99 rfl (by kernel_rfl)) rfl ?_
                rw [show rdEnd R0 = (false, ⟨#[]⟩, 0, false) by rw [← hrd]; unfold rdStep; simp only []; rw [if_neg (fun h => k1 h.1), if_neg nd, if_neg (fun h => k5 h.1)]; rfl]
                exact ⟨rfl, below_set (below_set (below_set hbw2 (Nat.le_refl _)) (Nat.le_refl _)) (Nat.le_refl _)⟩
          · have t3 : decide (48 ≤ c) = false := decide_eq_false k3
            have nd : ¬ (48 ≤ c ∧ c ≤ 57) := fun h => k3 h.1
            by_cases k5 : c = 46
            · have t6 : (c == 46) = true := beq_iff_eq.mpr k5
              cases pt with
              | true =>
                go_wp2
                refine bodyPost_ret (results_ct rfl _ _ w.heap.size 99 #[.bool false, .string ⟨#[]⟩, .int .i64 0] (0, 0) _ rfl (blk_put (cs := #[.bool false, .string ⟨#[]⟩, .int .i64 0]) (blk_put (cs := #[.bool false, .string ⟨#[]⟩, .int .i64 0]) (blk_put hc0 0 _ rfl) 1 _ rfl) 2 _ rfl) Tryd.underlying99 rfl (by kernel_rfl)) rfl ?_
                rw [show rdEnd R0 = (false, ⟨#[]⟩, 0, false) by rw [← hrd]; unfold rdStep; simp only []; rw [if_neg (fun h => k1 h.1), if_neg nd, if_neg (fun h => by cases h.2.1)]; rfl]
                exact ⟨rfl, below_set (below_set (below_set hbw2 (Nat.le_refl _)) (Nat.le_refl _)) (Nat.le_refl _)⟩
              | false =>
                by_cases k6 : 0 < whn
                · have t7 : decide (0 < whn) = true := decide_eq_true k6
                  go_wp2
                  go_roundw
                  case rel => exact ⟨pos + 1, b, ds, true, whn, fr, rfl, rfl, h1, by omega, h3, by omega, by omega, by omega, ho2, hc0, hc1, hit2, hbw2, by rw [← hrd]; simp [rdStep, rdEnd, k1, nd, k5, k6]⟩
                  case measure => rw [iterPos_is hit2, hip]; omega
                · have t7 : decide (0 < whn) = false := decide_eq_false k6
                  go_wp2
                  refine bodyPost_ret (results_ct rfl _ _ w.heap.size 99 #[.bool false, .string ⟨#[]⟩, .int .i64 0] (0, 0) _ rfl (blk_put (cs := #[.bool false, .string ⟨#[]⟩, .int .i64 0]) (blk_put (cs := #[.bool false, .string ⟨#[]⟩, .int .i64 0]) (blk_put hc0 0 _ rfl) 1 _ rfl) 2 _ rfl) Tryd.underlying99 rfl (by kernel_rfl)) rfl ?_
                  rw [show rdEnd R0 = (false, ⟨#[]⟩, 0, false) by rw [← hrd]; unfold rdStep; simp only []; rw [if_neg (fun h => k1 h.1), if_neg nd, if_neg (fun h => absurd h.2.2 (Int.not_lt.mpr k6))]; rfl]
                  exact ⟨rfl, below_set (below_set (below_set hbw2 (Nat.le_refl _)) (Nat.le_refl _)) (Nat.le_refl _)⟩
            · have t6 : (c == 46) = false := beq_eq_false_iff_ne.mpr k5
              go_wp2
              refine bodyPost_ret (results_ct rfl _ _ w.heap.size 99 #[.bool false, .string ⟨#[]⟩, .int .i64 0] (0, 0) _ rfl (blk_put (cs := #[.bool false, .string ⟨#[]⟩, .int .i64 0]) (blk_put (cs := #[.bool false, .string ⟨#[]⟩, .int .i64 0]) (blk_put hc0 0 _ rfl) 1 _ rfl) 2 _ rfl) Tryd.underlying99 rfl (by kernel_rfl)) rfl ?_
              rw [show rdEnd R0 = (false, ⟨#[]⟩, 0, false) by rw [← hrd]; unfold rdStep; simp only []; rw [if_neg (fun h => k1 h.1), if_neg nd, if_neg (fun h => k5 h.1)]; rfl]
              exact ⟨rfl, below_set (below_set (below_set hbw2 (Nat.le_refl _)) (Nat.le_refl _)) (Nat.le_refl _)⟩
      · have hdec := decode_high s pos hp (by omega)
        have hc128 : (128 : Int) ≤ ((Utf8.decode s pos).1 : Int) := by omega
        have hs128 : (128 : Int) ≤ ((s[pos]'hp).toNat : Int) := by omega
        have hrd' : rdEnd R0 = (false, ⟨#[]⟩, 0, false) := by
          rw [← hrd]
          generalize ((s[pos]'hp).toNat : Int) = x at *
          have e1 : ¬ x = 45 := by omega
          have e2 : ¬ x ≤ 57 := by omega
          have e3 : ¬ x = 46 := by omega
          simp [rdStep, e1, e2, e3, rdEnd]
        clear hit2 hrd hs128 hdec
        generalize ((Utf8.decode s pos).1 : Int) = c at *
        have t1 : (c == 45) = false := beq_eq_false_iff_ne.mpr (by omega)
        have t3 : decide (48 ≤ c) = true := decide_eq_true (by omega)
        have t4 : decide (c ≤ 57) = false := decide_eq_false (by omega)
        have t6 : (c == 46) = false := beq_eq_false_iff_ne.mpr (by omega)
        go_wp2
        refine bodyPost_ret (results_ct rfl _ _ w.heap.size 99 #[.bool false, .string ⟨#[]⟩, .int .i64 0] (0, 0) _ rfl (blk_put (cs := #[.bool false, .string ⟨#[]⟩, .int .i64 0]) (blk_put (cs := #[.bool false, .string ⟨#[]⟩, .int .i64 0]) (blk_put hc0 0 _ rfl) 1 _ rfl) 2 _ rfl) Tryd.underlying99 rfl (by kernel_rfl)) rfl ?_
        rw [hrd']
        exact ⟨rfl, below_set (below_set (below_set hbw2 (Nat.le_refl _)) (Nat.le_refl _)) (Nat.le_refl _)⟩
    · have hnx : ∀ ty, (Instr.next (.pointer (some ⟨w.heap.size + 2, 0, none⟩)) true ty).run Tryd.prog wr = _ := fun ty => Lib.run_next_end_at wr (w.heap.size + 2) s pos ty hit hp
      rw [rdL_end s pos hp] at hrd
      subst hrd
      have n1 : w.heap.size + 1 ≠ w.heap.size := by omega
      have r0 := (blk_cell hb0 0).trans rfl
      have r1 := (blk_cell hb0 1).trans rfl
      have r2 := (blk_cell hb0 2).trans rfl
      have f0 := blk_frozen hb0 0
      have f1 := blk_frozen hb0 1
      have f2 := blk_frozen hb0 2
      have d0 := (blk_cell hb1 0).trans rfl
      have d1 := (blk_cell hb1 1).trans rfl
      have d2 := (blk_cell hb1 2).trans rfl
      have g0 := blk_frozen hb1 0
      have g1 := blk_frozen hb1 1
      have g2 := blk_frozen hb1 2
      have hcv := own_string (P := Tryd.prog) (src := 111) (dst := 9) (e := 5) Tryd.underlying111 Tryd.underlying5 Tryd.underlying9 ho
      by_cases z : whn = 0
      · subst z
        go_wp2
        refine bodyPost_ret (results_ct rfl _ _ w.heap.size 99 #[.bool false, .string ⟨#[]⟩, .int .i64 0] (0, 0) _ rfl (blk_put (cs := #[.bool false, .string ⟨#[]⟩, .int .i64 0]) (blk_put (cs := #[.bool false, .string ⟨#[]⟩, .int .i64 0]) (blk_put hb0 0 _ rfl) 1 _ rfl) 2 _ rfl) Tryd.underlying99 rfl (by kernel_rfl)) rfl ?_
        refine ⟨by simp [rdEnd], ?_⟩
        exact below_set (below_set (below_set hbw (Nat.le_refl _)) (Nat.le_refl _)) (Nat.le_refl _)
      · have z' : (whn == 0) = false := beq_eq_false_iff_ne.mpr z
        cases pt with
        | false =>
          go_wp2
          refine bodyPost_ret (results_ct rfl _ _ w.heap.size 99 #[.bool b, .string (strOfNums ds), .int .i64 fr] (0, 0) _ rfl (blk_put (cs := #[.bool b, .string (strOfNums ds), .int .i64 0]) (blk_put (cs := #[.bool b, .string ⟨#[]⟩, .int .i64 0]) (blk_put (blk_far hb0 (p := ⟨w.heap.size + 1, 1, none⟩) n1.symm _) 0 _ rfl) 1 _ rfl) 2 _ rfl) Tryd.underlying99 rfl (by kernel_rfl)) rfl ?_
          refine ⟨by simp [rdEnd, z], ?_⟩
          exact below_set (below_set (below_set (below_set hbw (Nat.le_succ _)) (Nat.le_refl _)) (Nat.le_refl _)) (Nat.le_refl _)
        | true =>
          by_cases y : fr = 0
          · subst y
            go_wp2
            refine bodyPost_ret (results_ct rfl _ _ w.heap.size 99 #[.bool false, .string ⟨#[]⟩, .int .i64 0] (0, 0) _ rfl (blk_put (cs := #[.bool false, .string ⟨#[]⟩, .int .i64 0]) (blk_put (cs := #[.bool false, .string ⟨#[]⟩, .int .i64 0]) (blk_put hb0 0 _ rfl) 1 _ rfl) 2 _ rfl) Tryd.underlying99 rfl (by kernel_rfl)) rfl ?_
            refine ⟨by simp [rdEnd], ?_⟩
            exact below_set (below_set (below_set hbw (Nat.le_refl _)) (Nat.le_refl _)) (Nat.le_refl _)
          · have y' : (fr == 0) = false := beq_eq_false_iff_ne.mpr y
            go_wp2
            refine bodyPost_ret (results_ct rfl _ _ w.heap.size 99 #[.bool b, .string (strOfNums ds), .int .i64 fr] (0, 0) _ rfl (blk_put (cs := #[.bool b, .string (strOfNums ds), .int .i64 0]) (blk_put (cs := #[.bool b, .string ⟨#[]⟩, .int .i64 0]) (blk_put (blk_far hb0 (p := ⟨w.heap.size + 1, 1, none⟩) n1.symm _) 0 _ rfl) 1 _ rfl) 2 _ rfl) Tryd.underlying99 rfl (by kernel_rfl)) rfl ?_
            refine ⟨by simp [rdEnd, z, y], ?_⟩
            exact below_set (below_set (below_set (below_set hbw (Nat.le_succ _)) (Nat.le_refl _)) (Nat.le_refl _)) (Nat.le_refl _)
theorem micro_read.calls (a0 : ByteArray) (r1 : Bool) (r2 : ByteArray) (r3 : Int) (r4 : Bool) (w : World) (h : micro_read.f a0 = some (r1, r2, r3, r4)) :
    Calls Tryd.prog 91 #[.string a0] w fun e w' => e = .returned (.tuple #[.agg #[.bool r1, .string r2, .int .i64 r3], .bool r4]) ∧ Below w.heap.size w w' := by
  unfold micro_read.f at h
  split at h
  · rename_i hs
    have h2 := Option.some.inj h
    have h3 := rd_walk a0 w hs
    rw [h2] at h3
    exact h3
  · cases h


end Go.Proofs.YtcfhmbhlibhlnaaDoor.P
