-- Printed by this session's own pp.py (wip/tool) out of the translation.
import Derived.Test.YtcfhmbhlibhlnaaDoorPx0
import Derived.Test.YtcfhmbhlibhlnaaDoorPxf114
namespace Go.Proofs.YtcfhmbhlibhlnaaDoor.P
open Go.RowKit Go.Proofs.YtcfhmbhlibhlnaaDoorW.PrintWords Go.Proofs.YtcfhmbhlibhlnaaDoorW.PrintLast Go.Proofs.YtcfhmbhlibhlnaaDoorW.PrintMore Go.Proofs.YtcfhmbhlibhlnaaDoor.Mine
attribute [local go_sem] ext71 ext79 eqA61 eqA62
attribute [local go_sem] max2_int min2_int max_two min_two max_three min_three max_four min_four   -- for this text's walks alone
set_option linter.unusedVariables false
set_option linter.unusedSimpArgs false

/-! ### tumblerref02_Text: function 89 -/
mutual
def tumblerref02_Text.j1 : Nat → Bool → ByteArray → ByteArray → Option (ByteArray)
 | 0, _, _, _ => none
 | k + 1, x1, x6, x7 => if (x7.size : Int) > 0 then (if x6.size + 1 ≤ 9223372036854775807 then (if (x6 ++ (⟨#[46]⟩ : ByteArray)).size + x7.size ≤ 9223372036854775807 then (if x1 = true then (if 1 + ((x6 ++ (⟨#[46]⟩ : ByteArray)) ++ x7).size ≤ 9223372036854775807 then (some ((⟨#[45]⟩ : ByteArray) ++ ((x6 ++ (⟨#[46]⟩ : ByteArray)) ++ x7))) else (none)) else (some ((x6 ++ (⟨#[46]⟩ : ByteArray)) ++ x7))) else (none)) else (none)) else (if x1 = true then (if 1 + x6.size ≤ 9223372036854775807 then (some ((⟨#[45]⟩ : ByteArray) ++ x6)) else (none)) else (some x6))
def tumblerref02_Text.l0 : Nat → Bool → ByteArray → ByteArray → Option (ByteArray)
 | 0, _, _, _ => none
 | k + 1, x1, x6, x7 => if (x7.size : Int) > 0 then (if 0 ≤ (wrap64 ((x7.size : Int) - 1)) then (if (wrap64 ((x7.size : Int) - 1)) < (x7.size : Int) then (if (bt x7 (wrap64 ((x7.size : Int) - 1))) = 48 then (if (wrap64 ((x7.size : Int) - 1)) ≤ (x7.size : Int) then (tumblerref02_Text.l0 k x1 x6 (x7.extract 0 ((wrap64 ((x7.size : Int) - 1)) : Int).toNat)) else (none)) else (tumblerref02_Text.j1 k x1 x6 x7)) else (none)) else (none)) else (tumblerref02_Text.j1 k x1 x6 x7)
end
def tumblerref02_Text.f (k : Nat) (a0_0 : Int) (a0_1 : Int) (a0_2 : Bool) (a1 : Bool) : Option (ByteArray) := (tumblerref02_digits.f k a0_0 a0_1 a0_2).bind fun t986 => (if 0 ≤ (wrap64 ((t986.size : Int) - 6)) then (if (wrap64 ((t986.size : Int) - 6)) ≤ (t986.size : Int) then (tumblerref02_Text.l0 k a1 (t986.extract 0 ((wrap64 ((t986.size : Int) - 6)) : Int).toNat) (t986.extract ((wrap64 ((t986.size : Int) - 6)) : Int).toNat t986.size)) else (none)) else (none))
theorem tumblerref02_Text.mono_l : ∀ k, (∀ y0 y1 y2, LeO (tumblerref02_Text.j1 k y0 y1 y2) (tumblerref02_Text.j1 (k + 1) y0 y1 y2)) ∧ (∀ y0 y1 y2, LeO (tumblerref02_Text.l0 k y0 y1 y2) (tumblerref02_Text.l0 (k + 1) y0 y1 y2))
 | 0 => ⟨fun _ _ _ r h => by simp [tumblerref02_Text.j1] at h, fun _ _ _ r h => by simp [tumblerref02_Text.l0] at h⟩
 | k + 1 => by
  obtain ⟨ih0, ih1⟩ := tumblerref02_Text.mono_l k
  refine ⟨?_, ?_⟩
  · intro y0 y1 y2
    unfold tumblerref02_Text.j1
    repeat' first
    | (with_reducible exact ih0 _ _ _)
    | (with_reducible exact ih1 _ _ _)
    | (with_reducible exact tumblerref02_digits.mono _ _ _ _)
    | (with_reducible exact LeO.refl _)
    | (with_reducible exact LeO.none _)
    | (with_reducible refine LeO.ite ?_ ?_)
    | (with_reducible refine LeO.bind ?_ (fun _ => ?_))
    | exact ih0 _ _ _
    | exact ih1 _ _ _
    | exact tumblerref02_digits.mono _ _ _ _
    | exact LeO.none _
    | refine LeO.ite ?_ ?_
    | refine LeO.bind ?_ (fun _ => ?_)
  · intro y0 y1 y2
    unfold tumblerref02_Text.l0
    repeat' first
    | (with_reducible exact ih0 _ _ _)
    | (with_reducible exact ih1 _ _ _)
    | (with_reducible exact tumblerref02_digits.mono _ _ _ _)
    | (with_reducible exact LeO.refl _)
    | (with_reducible exact LeO.none _)
    | (with_reducible refine LeO.ite ?_ ?_)
    | (with_reducible refine LeO.bind ?_ (fun _ => ?_))
    | exact ih0 _ _ _
    | exact ih1 _ _ _
    | exact tumblerref02_digits.mono _ _ _ _
    | exact LeO.none _
    | refine LeO.ite ?_ ?_
    | refine LeO.bind ?_ (fun _ => ?_)
theorem tumblerref02_Text.mono : ∀ a0 a1 a2 a3 k, LeO (tumblerref02_Text.f k a0 a1 a2 a3) (tumblerref02_Text.f (k + 1) a0 a1 a2 a3) := by
 intro a0 a1 a2 a3 k
 obtain ⟨ih0, ih1⟩ := tumblerref02_Text.mono_l k
 unfold tumblerref02_Text.f
 repeat' first
  | (with_reducible exact ih0 _ _ _)
  | (with_reducible exact ih1 _ _ _)
  | (with_reducible exact tumblerref02_digits.mono _ _ _ _)
  | (with_reducible exact LeO.refl _)
  | (with_reducible exact LeO.none _)
  | (with_reducible refine LeO.ite ?_ ?_)
  | (with_reducible refine LeO.bind ?_ (fun _ => ?_))
  | exact ih0 _ _ _
  | exact ih1 _ _ _
  | exact tumblerref02_digits.mono _ _ _ _
  | exact LeO.none _
  | refine LeO.ite ?_ ?_
  | refine LeO.bind ?_ (fun _ => ?_)
set_option maxHeartbeats 8000000 in
set_option maxRecDepth 100000 in
theorem tumblerref02_Text.calls (k : Nat) (a0_0 : Int) (a0_1 : Int) (a0_2 : Bool) (a1 : Bool) (r : ByteArray) (w : World) (h : tumblerref02_Text.f k a0_0 a0_1 a0_2 a1 = some r) :
 Calls Tryd.prog 89 #[.agg #[.int .u64 a0_0, .int .u64 a0_1, .bool a0_2], .bool a1] w fun e w' => e = .returned (.string r) ∧ Below w.heap.size w w' := by
 have hu93 := Tryd.underlying93; have HB := am (Below.refl w.heap.size w); have H : ((tumblerref02_digits.f k a0_0 a0_1 a0_2).bind fun t986 => (if 0 ≤ (wrap64 ((t986.size : Int) - 6)) then (if (wrap64 ((t986.size : Int) - 6)) ≤ (t986.size : Int) then (tumblerref02_Text.l0 k a1 (t986.extract 0 ((wrap64 ((t986.size : Int) - 6)) : Int).toNat) (t986.extract ((wrap64 ((t986.size : Int) - 6)) : Int).toNat t986.size)) else (none)) else (none))) = some r := h; clear h
 replace H := Option.bind_eq_some_iff.mp H
 obtain ⟨t986, A30, H⟩ := H
 replace H : (if 0 ≤ (wrap64 ((t986.size : Int) - 6)) then (if (wrap64 ((t986.size : Int) - 6)) ≤ (t986.size : Int) then (tumblerref02_Text.l0 k a1 (t986.extract 0 ((wrap64 ((t986.size : Int) - 6)) : Int).toNat) (t986.extract ((wrap64 ((t986.size : Int) - 6)) : Int).toNat t986.size)) else (none)) else (none)) = some r := H
 have A3 := Aside0.mk A30; clear A30
 obtain ⟨ji4, hji4⟩ : ∃ j_ : Int, (wrap64 ((t986.size : Int) - 6)) = j_ := ⟨_, rfl⟩
 replace H : (if 0 ≤ (ji4) then (if (ji4) ≤ (t986.size : Int) then (tumblerref02_Text.l0 k a1 (t986.extract 0 ((ji4) : Int).toNat) (t986.extract ((ji4) : Int).toNat t986.size)) else (none)) else (none)) = some r := by first | (rw [hji4] at H; exact H) | (simp only [hji4] at H ⊢; exact H)
 (try rw [hji4] at A3); have hji4w : (IntKind.i64.wrap ((t986.size : Int) - 6)) = ji4 := (i64_w _).trans hji4
 by_cases c5 : 0 ≤ (ji4)
 · rw [if_pos c5] at H
   have c5b0 := eq_true c5; have c5b1 : decide (0 ≤ (ji4)) = true := decide_eq_true c5; clear c5
   by_cases c6 : (ji4) ≤ (t986.size : Int)
   · rw [if_pos c6] at H
     have c6b0 := eq_true c6; have c6b1 : decide ((ji4) ≤ (t986.size : Int)) = true := decide_eq_true c6; clear c6; have c7b0 := eq_true (of_decide_eq_true (by first | (with_reducible assumption) | assumption) : 0 ≤ (ji4)); have c8b0 := eq_true (of_decide_eq_true (by first | (with_reducible assumption) | assumption) : (ji4) ≤ (t986.size : Int)); have HC9 := Aside0.mk H; clear H
     go_enter Tryd.func89, Tryd.ntmps89
     go_upto_block 0 with (first | ((with_reducible refine gate_dst (N := 2) rfl ?_); (try (refine gate_guard (by rfl) ?_; dsimp only)); refine box_event ?hg (N := 2) ?hd (cs := #[.int .u64 a0_0, .int .u64 a0_1, .bool a0_2]) (t := 93) ?hr ?_; (case hd => rfl); (case hg => rfl); (case hr => first | (go_simp; done) | (go_simp; rfl)); intro gb985 hg w10 hbox hb; have n0_ := am (below_step bz hb); have n1_ := am (hbox); have n2_ := am ((by rw [hg]; exact (below_size bz) : w.heap.size ≤ gb985)); have n3_ := am ((by rw [hg]; exact (below_size bz) : w.heap.size ≤ gb985)); clear HB; have HB := n0_; have BK985 := n1_; have GW985 := n2_; have GE985 := n3_; clear n0_ n1_ n2_ n3_; clear hb hbox hg; have hcz11_0 : w10.cell? ⟨gb985, 0, none⟩ = some (.int .u64 a0_0) := (blk_cell BK985.out 0).trans rfl; have hcz11_1 : w10.cell? ⟨gb985, 1, none⟩ = some (.int .u64 a0_1) := (blk_cell BK985.out 1).trans rfl; have hcz11_2 : w10.cell? ⟨gb985, 2, none⟩ = some (.bool a0_2) := (blk_cell BK985.out 2).trans rfl; have hfz11_0 := blk_frozen BK985.out 0; have hfz11_1 := blk_frozen BK985.out 1; have hfz11_2 := blk_frozen BK985.out 2) | ((with_reducible refine gate_callee (f := 114) rfl ?_); refine goesL_ (some 9) rfl rfl Tryd.func114 (by kernel_rfl) rfl #[.agg #[.int .u64 a0_0, .int .u64 a0_1, .bool a0_2]] rfl (by (try simp only [List.map_toArray, List.map_cons, List.map_nil]); first | done | rfl | (simp only [List.length_drop, List.length_take]; rfl)) ?_; (with_reducible refine (tumblerref02_digits.calls k a0_0 a0_1 a0_2 t986 _ A3.out).mono ?_); rintro e w12 ⟨rfl, hb⟩; refine ⟨_, rfl, ?_⟩; have n0_ := am (bb BK985 hb); have n1_ := am (below_step bz hb); clear BK985; clear HB; have BK985 := n0_; have HB := n1_; clear n0_ n1_; (try clear hb); (try clear hb2); (try clear hk); (try clear hi)))
     (try simp only [Act.put, List.setIfInBounds_toArray, List.set_cons_zero, List.set_cons_succ])
     go_cut [7] (fun v7 wc => ∃ (kq : Nat) (x7_8 : ByteArray), v7 = .string x7_8 ∧ Aside0 (tumblerref02_Text.j1 kq a1 (t986.extract 0 ((ji4) : Int).toNat) x7_8 = some r) ∧ Aside0 (kq ≤ k) ∧ Aside0 (wc.heap[gb985]? = some (.cells #[.int .u64 a0_0, .int .u64 a0_1, .bool a0_2] 93 (0, 0))) ∧ Aside0 (Below w.heap.size w wc))
     case first =>
      have H := HC9.out; clear HC9; have H' := Aside0.mk H; clear H
      go_wp2
      go_loopg [7] k (fun kq v7 w' => ∃ (x7_1 : ByteArray), v7 = .string x7_1 ∧ Aside0 (tumblerref02_Text.l0 kq a1 (t986.extract 0 ((ji4) : Int).toNat) x7_1 = some r) ∧ Aside0 (kq ≤ k) ∧ Aside0 (w'.heap[gb985]? = some (.cells #[.int .u64 a0_0, .int .u64 a0_1, .bool a0_2] 93 (0, 0))) ∧ Aside0 (Below w.heap.size w w'))
      case atStart => exact ⟨(t986.extract ((ji4) : Int).toNat t986.size), (by first | rfl | (simp; done) | (simp only [← hji4] <;> (first | rfl | simp)) | (simp [*]; done)), H', ⟨Nat.le_refl _⟩, ⟨by (with_reducible repeat (first | apply bA | apply bB | apply bC)); exact BK985.out⟩, ⟨by repeat (first | (with_reducible first | exact HB.out | apply dA | apply dB | apply dC | refine dE ?_ ‹_›) | exact HB.out)⟩⟩
      case round =>
       clear H'
       try clear c1
       try clear p2
       try clear c5
       try clear c5b0
       try clear c5b1
       try clear c6
       try clear c6b0
       try clear c6b1
       try clear p6
       try clear c7
       try clear c7b0
       try clear c8
       try clear c8b0
       try clear c11
       try clear hcz11_0
       try clear hcz11_1
       try clear hcz11_2
       try clear hfz11_0
       try clear hfz11_1
       try clear hfz11_2
       obtain ⟨x7_1, rfl, HA, HK1, BK985, HB⟩ := hrel
       cases gk with
       | zero => exact absurd HA.out (by simp [tumblerref02_Text.l0])
       | succ k1 =>
        have H := HA.out; clear HA
        simp only [tumblerref02_Text.l0] at H
        by_cases c13 : (x7_1.size : Int) > 0
        · rw [if_pos c13] at H
          have c13b0 : decide (0 < (x7_1.size : Int)) = true := decide_eq_true c13; have c13b1 : decide (0 < x7_1.size) = true := decide_eq_true (by omega); clear c13
          (first | rw [c13b0] | (simp only [i64_w, i32_w]; rw [c13b0]) | skip)
          obtain ⟨ji14, hji14⟩ : ∃ j_ : Int, (wrap64 ((x7_1.size : Int) - 1)) = j_ := ⟨_, rfl⟩
          replace H : (if 0 ≤ (ji14) then (if (ji14) < (x7_1.size : Int) then (if (bt x7_1 (ji14)) = 48 then (if (ji14) ≤ (x7_1.size : Int) then (tumblerref02_Text.l0 k1 a1 (t986.extract 0 ((ji4) : Int).toNat) (x7_1.extract 0 ((ji14) : Int).toNat)) else (none)) else (tumblerref02_Text.j1 k1 a1 (t986.extract 0 ((ji4) : Int).toNat) x7_1)) else (none)) else (none)) = some r := by first | (rw [hji14] at H; exact H) | (simp only [hji14] at H ⊢; exact H)
          have hji14w : (IntKind.i64.wrap ((x7_1.size : Int) - 1)) = ji14 := (i64_w _).trans hji14
          by_cases c15 : 0 ≤ (ji14)
          · rw [if_pos c15] at H
            have c15b0 : decide (0 ≤ (ji14)) = true := decide_eq_true c15; clear c15
            by_cases c16 : (ji14) < (x7_1.size : Int)
            · rw [if_pos c16] at H
              have c16b0 : decide ((ji14) < (x7_1.size : Int)) = true := decide_eq_true c16; clear c16
              by_cases c18 : (bt x7_1 (ji14)) = 48
              · rw [if_pos c18] at H
                have c18b0 : ((bt x7_1 (ji14)) == 48) = true := beq_iff_eq.mpr c18; have c18b1 : ((bt x7_1 (ji14)) != 48) = false := bne_eq_false_iff_eq.mpr c18; clear c18; have c19b0 := eq_true (of_decide_eq_true (by first | (with_reducible assumption) | assumption) : 0 ≤ (ji14))
                by_cases c20 : (ji14) ≤ (x7_1.size : Int)
                · rw [if_pos c20] at H
                  have c20b0 := eq_true c20; have c20b1 : decide ((ji14) ≤ (x7_1.size : Int)) = true := decide_eq_true c20; clear c20; have H' := Aside0.mk H; clear H; have p17 : 0 ≤ ((ji14) : Int) := of_decide_eq_true (by first | (with_reducible assumption) | assumption); have q17 : (ji14) < (x7_1.size : Int) := of_decide_eq_true (by first | (with_reducible assumption) | assumption); have hx17 := bt_at x7_1 (ji14)
                  replace p17 := eq_true p17
                  replace q17 := eq_true q17
                  go_wp2
                  go_roundg k1
                  case measure => have := HK1.out; omega
                  case rel => exact ⟨(x7_1.extract 0 ((ji14) : Int).toNat), (by first | rfl | (simp; done) | (simp only [← hji14] <;> (first | rfl | simp)) | (simp [*]; done)), H', ⟨by have := HK1.out; omega⟩, ⟨by (with_reducible repeat (first | apply bA | apply bB | apply bC)); exact BK985.out⟩, ⟨by repeat (first | (with_reducible first | exact HB.out | apply dA | apply dB | apply dC | refine dE ?_ ‹_›) | exact HB.out)⟩⟩
                · rw [if_neg c20] at H
                  exact absurd H (by simp)
              · rw [if_neg c18] at H
                have c18b0 : ((bt x7_1 (ji14)) == 48) = false := beq_eq_false_iff_ne.mpr c18; have c18b1 : ((bt x7_1 (ji14)) != 48) = true := bne_iff_ne.mpr c18; have H' := Aside0.mk H; clear H; have p17 : 0 ≤ ((ji14) : Int) := of_decide_eq_true (by first | (with_reducible assumption) | assumption); have q17 : (ji14) < (x7_1.size : Int) := of_decide_eq_true (by first | (with_reducible assumption) | assumption); have hx17 := bt_at x7_1 (ji14)
                replace p17 := eq_true p17
                replace q17 := eq_true q17
                go_wp2
                go_meet
                case rel => exact ⟨_, (x7_1), (by first | rfl | (simp; done) | (simp [*]; done)), H', ⟨by have := HK1.out; first | omega | exact Nat.le_refl _⟩, ⟨by (with_reducible repeat (first | apply bA | apply bB | apply bC)); exact BK985.out⟩, ⟨by repeat (first | (with_reducible first | exact HB.out | apply dA | apply dB | apply dC | refine dE ?_ ‹_›) | exact HB.out)⟩⟩
            · rw [if_neg c16] at H
              exact absurd H (by simp)
          · rw [if_neg c15] at H
            exact absurd H (by simp)
        · rw [if_neg c13] at H
          have c13b0 : decide (0 < (x7_1.size : Int)) = false := decide_eq_false c13; have c13b1 : decide (0 < x7_1.size) = false := decide_eq_false (by omega); clear c13
          (first | rw [c13b0] | (simp only [i64_w, i32_w]; rw [c13b0]) | skip)
          have H' := Aside0.mk H; clear H
          go_wp2
          go_meet
          case rel => exact ⟨_, (x7_1), (by first | rfl | (simp; done) | (simp [*]; done)), H', ⟨by have := HK1.out; first | omega | exact Nat.le_refl _⟩, ⟨by (with_reducible repeat (first | apply bA | apply bB | apply bC)); exact BK985.out⟩, ⟨by repeat (first | (with_reducible first | exact HB.out | apply dA | apply dB | apply dC | refine dE ?_ ‹_›) | exact HB.out)⟩⟩
     case rest =>
      clear HC9
      try clear c1
      try clear p1
      try clear q1
      try clear hx1
      try clear c2
      try clear p2
      try clear c5
      try clear c5b0
      try clear c5b1
      try clear c6
      try clear c6b0
      try clear c6b1
      try clear p6
      try clear c7
      try clear c7b0
      try clear c8
      try clear c8b0
      try clear c11
      try clear c13
      try clear c13b0
      try clear c13b1
      try clear c15
      try clear c15b0
      try clear c16
      try clear c16b0
      try clear p17
      try clear q17
      try clear hx17
      try clear c18
      try clear c18b0
      try clear c18b1
      try clear c19
      try clear c19b0
      try clear c20
      try clear c20b0
      try clear c20b1
      try clear hcz11_0
      try clear hcz11_1
      try clear hcz11_2
      try clear hfz11_0
      try clear hfz11_1
      try clear hfz11_2
      try clear p17
      try clear p2
      try clear p6
      try clear q17
      obtain ⟨kq, x7_8, rfl, HA, HJ8, BK985, HB⟩ := hcut
      cases kq with
      | zero => exact absurd HA.out (by simp [tumblerref02_Text.j1])
      | succ kj8 =>
       have H := HA.out; clear HA
       simp only [tumblerref02_Text.j1] at H
       by_cases c21 : (x7_8.size : Int) > 0
       · rw [if_pos c21] at H
         have c21b0 : decide (0 < (x7_8.size : Int)) = true := decide_eq_true c21; have c21b1 : decide (0 < x7_8.size) = true := decide_eq_true (by omega); clear c21
         by_cases c22 : (t986.extract 0 ((ji4) : Int).toNat).size + 1 ≤ 9223372036854775807
         · rw [if_pos c22] at H
           have c22b0 := eq_true c22; have c22b1 : decide ((t986.extract 0 ((ji4) : Int).toNat).size + 1 ≤ 9223372036854775807) = true := decide_eq_true c22
           try have c22b2 : (9223372036854775807 < (t986.extract 0 ((ji4) : Int).toNat).size + 1) = False := eq_false (Nat.not_lt.2 c22)
           by_cases c23 : ((t986.extract 0 ((ji4) : Int).toNat) ++ (⟨#[46]⟩ : ByteArray)).size + x7_8.size ≤ 9223372036854775807
           · rw [if_pos c23] at H
             have c23b0 := eq_true c23; have c23b1 : decide (((t986.extract 0 ((ji4) : Int).toNat) ++ (⟨#[46]⟩ : ByteArray)).size + x7_8.size ≤ 9223372036854775807) = true := decide_eq_true c23
             try have c23b2 : (9223372036854775807 < ((t986.extract 0 ((ji4) : Int).toNat) ++ (⟨#[46]⟩ : ByteArray)).size + x7_8.size) = False := eq_false (Nat.not_lt.2 c23)
             try (have c23z1 := c23; simp only [ByteArray.size_append] at c23z1; have c23z2 := eq_false (Nat.not_lt.2 c23z1); have c23z3 := decide_eq_true c23z1)
             try (have c23y1 := c23; simp [ByteArray.size_append, ByteArray.size_extract, show ∀ b_ : UInt8, ByteArray.size ⟨#[b_]⟩ = 1 from fun _ => rfl] at c23y1; have c23y2 := eq_false (Nat.not_lt.2 c23y1))
             by_cases c24 : a1 = true
             · subst c24
               have H1 : (if 1 + (((t986.extract 0 ((ji4) : Int).toNat) ++ (⟨#[46]⟩ : ByteArray)) ++ x7_8).size ≤ 9223372036854775807 then (some ((⟨#[45]⟩ : ByteArray) ++ (((t986.extract 0 ((ji4) : Int).toNat) ++ (⟨#[46]⟩ : ByteArray)) ++ x7_8))) else (none)) = some r := by rw [if_pos rfl] at H; exact H
               clear H; have H := H1; clear H1
               by_cases c25 : 1 + (((t986.extract 0 ((ji4) : Int).toNat) ++ (⟨#[46]⟩ : ByteArray)) ++ x7_8).size ≤ 9223372036854775807
               · rw [if_pos c25] at H
                 have c25b0 := eq_true c25; have c25b1 : decide (1 + (((t986.extract 0 ((ji4) : Int).toNat) ++ (⟨#[46]⟩ : ByteArray)) ++ x7_8).size ≤ 9223372036854775807) = true := decide_eq_true c25
                 try have c25b2 : (9223372036854775807 < 1 + (((t986.extract 0 ((ji4) : Int).toNat) ++ (⟨#[46]⟩ : ByteArray)) ++ x7_8).size) = False := eq_false (Nat.not_lt.2 c25)
                 try (have c25z1 := c25; simp only [ByteArray.size_append] at c25z1; have c25z2 := eq_false (Nat.not_lt.2 c25z1); have c25z3 := decide_eq_true c25z1)
                 try (have c25y1 := c25; simp [ByteArray.size_append, ByteArray.size_extract, show ∀ b_ : UInt8, ByteArray.size ⟨#[b_]⟩ = 1 from fun _ => rfl] at c25y1; have c25y2 := eq_false (Nat.not_lt.2 c25y1))
                 obtain rfl := Option.some.inj H
                 go_wp2
                 go_ret
                 exact ⟨by first | rfl | (simp [errW_none, errW_some] <;> rfl) | (simp only [← hji4]; first | rfl | (simp [errW_none, errW_some] <;> rfl)) | (simp [*, errW_none, errW_some] <;> rfl), by repeat (first | (with_reducible first | exact HB.out | apply dA | apply dB | apply dC | refine dE ?_ ‹_›) | exact HB.out)⟩
               · rw [if_neg c25] at H
                 exact absurd H (by simp)
             · replace c24 := Bool.eq_false_iff.mpr c24
               subst c24
               have H1 : (some (((t986.extract 0 ((ji4) : Int).toNat) ++ (⟨#[46]⟩ : ByteArray)) ++ x7_8)) = some r := by rw [if_neg (show ¬ (false = true) by decide)] at H; exact H
               clear H; have H := H1; clear H1
               obtain rfl := Option.some.inj H
               go_wp2
               go_ret
               exact ⟨by first | rfl | (simp [errW_none, errW_some] <;> rfl) | (simp only [← hji4]; first | rfl | (simp [errW_none, errW_some] <;> rfl)) | (simp [*, errW_none, errW_some] <;> rfl), by repeat (first | (with_reducible first | exact HB.out | apply dA | apply dB | apply dC | refine dE ?_ ‹_›) | exact HB.out)⟩
           · rw [if_neg c23] at H
             exact absurd H (by simp)
         · rw [if_neg c22] at H
           exact absurd H (by simp)
       · rw [if_neg c21] at H
         have c21b0 : decide (0 < (x7_8.size : Int)) = false := decide_eq_false c21; have c21b1 : decide (0 < x7_8.size) = false := decide_eq_false (by omega); clear c21
         by_cases c26 : a1 = true
         · subst c26
           have H1 : (if 1 + (t986.extract 0 ((ji4) : Int).toNat).size ≤ 9223372036854775807 then (some ((⟨#[45]⟩ : ByteArray) ++ (t986.extract 0 ((ji4) : Int).toNat))) else (none)) = some r := by rw [if_pos rfl] at H; exact H
           clear H; have H := H1; clear H1
           by_cases c27 : 1 + (t986.extract 0 ((ji4) : Int).toNat).size ≤ 9223372036854775807
           · rw [if_pos c27] at H
             have c27b0 := eq_true c27; have c27b1 : decide (1 + (t986.extract 0 ((ji4) : Int).toNat).size ≤ 9223372036854775807) = true := decide_eq_true c27
             try have c27b2 : (9223372036854775807 < 1 + (t986.extract 0 ((ji4) : Int).toNat).size) = False := eq_false (Nat.not_lt.2 c27)
             try (have c27z1 := c27; simp only [ByteArray.size_append] at c27z1; have c27z2 := eq_false (Nat.not_lt.2 c27z1); have c27z3 := decide_eq_true c27z1)
             try (have c27y1 := c27; simp [ByteArray.size_append, ByteArray.size_extract, show ∀ b_ : UInt8, ByteArray.size ⟨#[b_]⟩ = 1 from fun _ => rfl] at c27y1; have c27y2 := eq_false (Nat.not_lt.2 c27y1))
             obtain rfl := Option.some.inj H
             go_wp2
             go_ret
             exact ⟨by first | rfl | (simp [errW_none, errW_some] <;> rfl) | (simp only [← hji4]; first | rfl | (simp [errW_none, errW_some] <;> rfl)) | (simp [*, errW_none, errW_some] <;> rfl), by repeat (first | (with_reducible first | exact HB.out | apply dA | apply dB | apply dC | refine dE ?_ ‹_›) | exact HB.out)⟩
           · rw [if_neg c27] at H
             exact absurd H (by simp)
         · replace c26 := Bool.eq_false_iff.mpr c26
           subst c26
           have H1 : (some (t986.extract 0 ((ji4) : Int).toNat)) = some r := by rw [if_neg (show ¬ (false = true) by decide)] at H; exact H
           clear H; have H := H1; clear H1
           obtain rfl := Option.some.inj H
           go_wp2
           go_ret
           exact ⟨by first | rfl | (simp [errW_none, errW_some] <;> rfl) | (simp only [← hji4]; first | rfl | (simp [errW_none, errW_some] <;> rfl)) | (simp [*, errW_none, errW_some] <;> rfl), by repeat (first | (with_reducible first | exact HB.out | apply dA | apply dB | apply dC | refine dE ?_ ‹_›) | exact HB.out)⟩
   · rw [if_neg c6] at H
     exact absurd H (by simp)
 · rw [if_neg c5] at H
   exact absurd H (by simp)

end Go.Proofs.YtcfhmbhlibhlnaaDoor.P
