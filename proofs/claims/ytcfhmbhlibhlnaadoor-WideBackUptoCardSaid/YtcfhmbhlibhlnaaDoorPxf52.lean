-- Printed by this session's own pp.py (wip/tool) out of the translation.
import Derived.Test.YtcfhmbhlibhlnaaDoorPx0
import Derived.Test.YtcfhmbhlibhlnaaDoorPxf70
import Derived.Test.YtcfhmbhlibhlnaaDoorPxf72
import Derived.Test.YtcfhmbhlibhlnaaDoorPxf83
import Derived.Test.YtcfhmbhlibhlnaaDoorPxf84
namespace Go.Proofs.YtcfhmbhlibhlnaaDoor.P
open Go.RowKit Go.Proofs.YtcfhmbhlibhlnaaDoorW.PrintWords Go.Proofs.YtcfhmbhlibhlnaaDoorW.PrintLast Go.Proofs.YtcfhmbhlibhlnaaDoorW.PrintMore Go.Proofs.YtcfhmbhlibhlnaaDoor.Mine
attribute [local go_sem] ext71 ext79 eqA61 eqA62
attribute [local go_sem] max2_int min2_int max_two min_two max_three min_three max_four min_four   -- for this text's walks alone
set_option linter.unusedVariables false
set_option linter.unusedSimpArgs false

/-! ### wide_Parse: function 52 -/
mutual
def wide_Parse.j0 : Nat → ByteArray → Bool → Bool → Option (Int × Int × Int)
 | 0, _, _, _ => none
 | k + 1, x4, x5, x28 => if x28 = true then (some (0, 0, 12)) else (if (x4.size : Int) > 39 then (some (0, 0, 10)) else (wide_Parse.l0 k x4 x5 (x4.size : Int) 0 0 0))
def wide_Parse.l0 : Nat → ByteArray → Bool → Int → Int → Int → Int → Option (Int × Int × Int)
 | 0, _, _, _, _, _, _ => none
 | k + 1, x4, x5, x35, x36, x867000, x867001 => if x36 < x35 then ((bits_Mul64.f x867001 10).bind fun bt870 => ((bits_Mul64.f x867000 10).bind fun bt872 => (if 0 ≤ x36 then (if x36 < (x4.size : Int) then (if (addHi bt872.2 (((bt x4 x36) - 48) % 256) 0) ≤ 1 then (if bt870.1 > 0 then (some (0, 0, 10)) else (if (addHi bt870.2 bt872.1 (addHi bt872.2 (((bt x4 x36) - 48) % 256) 0)) > 0 then (some (0, 0, 10)) else (wide_Parse.l0 k x4 x5 x35 (wrap64 (x36 + 1)) (addLo bt872.2 (((bt x4 x36) - 48) % 256) 0) (addLo bt870.2 bt872.1 (addHi bt872.2 (((bt x4 x36) - 48) % 256) 0))))) else (none)) else (none)) else (none)))) else ((wide_signed.f k x867000 x867001 x5).bind fun bt867 => (some (bt867.1, bt867.2.1, bt867.2.2)))
end
def wide_Parse.f (k : Nat) (a0 : ByteArray) : Option (Int × Int × Int) := (strings_CutPrefix.f a0 (⟨#[45]⟩ : ByteArray)).bind fun bt863 => ((wide_digits.f k bt863.1).bind fun t865 => (if t865 = true then (if bt863.2 = true then (wide_Parse.j0 k bt863.1 bt863.2 (bt863.1.toList == ([48] : List UInt8))) else (wide_Parse.j0 k bt863.1 bt863.2 false)) else (wide_Parse.j0 k bt863.1 bt863.2 true)))
theorem wide_Parse.mono_l : ∀ k, (∀ y0 y1 y2, LeO (wide_Parse.j0 k y0 y1 y2) (wide_Parse.j0 (k + 1) y0 y1 y2)) ∧ (∀ y0 y1 y2 y3 y4 y5, LeO (wide_Parse.l0 k y0 y1 y2 y3 y4 y5) (wide_Parse.l0 (k + 1) y0 y1 y2 y3 y4 y5))
 | 0 => ⟨fun _ _ _ r h => by simp [wide_Parse.j0] at h, fun _ _ _ _ _ _ r h => by simp [wide_Parse.l0] at h⟩
 | k + 1 => by
  obtain ⟨ih0, ih1⟩ := wide_Parse.mono_l k
  refine ⟨?_, ?_⟩
  · intro y0 y1 y2
    unfold wide_Parse.j0
    repeat' first
    | (with_reducible exact ih0 _ _ _)
    | (with_reducible exact ih1 _ _ _ _ _ _)
    | (with_reducible exact wide_digits.mono _ _)
    | (with_reducible exact wide_signed.mono _ _ _ _)
    | (with_reducible exact LeO.refl _)
    | (with_reducible exact LeO.none _)
    | (with_reducible refine LeO.ite ?_ ?_)
    | (with_reducible refine LeO.bind ?_ (fun _ => ?_))
    | exact ih0 _ _ _
    | exact ih1 _ _ _ _ _ _
    | exact wide_digits.mono _ _
    | exact wide_signed.mono _ _ _ _
    | exact LeO.none _
    | refine LeO.ite ?_ ?_
    | refine LeO.bind ?_ (fun _ => ?_)
  · intro y0 y1 y2 y3 y4 y5
    unfold wide_Parse.l0
    repeat' first
    | (with_reducible exact ih0 _ _ _)
    | (with_reducible exact ih1 _ _ _ _ _ _)
    | (with_reducible exact wide_digits.mono _ _)
    | (with_reducible exact wide_signed.mono _ _ _ _)
    | (with_reducible exact LeO.refl _)
    | (with_reducible exact LeO.none _)
    | (with_reducible refine LeO.ite ?_ ?_)
    | (with_reducible refine LeO.bind ?_ (fun _ => ?_))
    | exact ih0 _ _ _
    | exact ih1 _ _ _ _ _ _
    | exact wide_digits.mono _ _
    | exact wide_signed.mono _ _ _ _
    | exact LeO.none _
    | refine LeO.ite ?_ ?_
    | refine LeO.bind ?_ (fun _ => ?_)
theorem wide_Parse.mono : ∀ a0 k, LeO (wide_Parse.f k a0) (wide_Parse.f (k + 1) a0) := by
 intro a0 k
 obtain ⟨ih0, ih1⟩ := wide_Parse.mono_l k
 unfold wide_Parse.f
 repeat' first
  | (with_reducible exact ih0 _ _ _)
  | (with_reducible exact ih1 _ _ _ _ _ _)
  | (with_reducible exact wide_digits.mono _ _)
  | (with_reducible exact wide_signed.mono _ _ _ _)
  | (with_reducible exact LeO.refl _)
  | (with_reducible exact LeO.none _)
  | (with_reducible refine LeO.ite ?_ ?_)
  | (with_reducible refine LeO.bind ?_ (fun _ => ?_))
  | exact ih0 _ _ _
  | exact ih1 _ _ _ _ _ _
  | exact wide_digits.mono _ _
  | exact wide_signed.mono _ _ _ _
  | exact LeO.none _
  | refine LeO.ite ?_ ?_
  | refine LeO.bind ?_ (fun _ => ?_)
set_option maxHeartbeats 8000000 in
set_option maxRecDepth 100000 in
theorem wide_Parse.calls (k : Nat) (a0 : ByteArray) (r1 : Int) (r2 : Int) (r3 : Int) (w : World) (h : wide_Parse.f k a0 = some (r1, r2, r3)) :
 Calls Tryd.prog 52 #[.string a0] w fun e w' => e = .returned (.tuple #[.agg #[.int .i64 r1, .int .u64 r2], .int .i64 r3]) ∧ Below w.heap.size w w' := by
 have hu24 := Tryd.underlying24; have hu62 := Tryd.underlying62; have HB := am (Below.refl w.heap.size w); have H : ((strings_CutPrefix.f a0 (⟨#[45]⟩ : ByteArray)).bind fun bt863 => ((wide_digits.f k bt863.1).bind fun t865 => (if t865 = true then (if bt863.2 = true then (wide_Parse.j0 k bt863.1 bt863.2 (bt863.1.toList == ([48] : List UInt8))) else (wide_Parse.j0 k bt863.1 bt863.2 false)) else (wide_Parse.j0 k bt863.1 bt863.2 true)))) = some (r1, r2, r3) := h; clear h
 replace H := Option.bind_eq_some_iff.mp H
 obtain ⟨⟨t863, t864⟩, A20, H⟩ := H
 replace H : ((wide_digits.f k t863).bind fun t865 => (if t865 = true then (if t864 = true then (wide_Parse.j0 k t863 t864 (t863.toList == ([48] : List UInt8))) else (wide_Parse.j0 k t863 t864 false)) else (wide_Parse.j0 k t863 t864 true))) = some (r1, r2, r3) := H
 have A2 := Aside0.mk A20; clear A20; have HC3 := Aside0.mk H; clear H
 go_enter Tryd.func52, Tryd.ntmps52
 go_upto_region 2 with (first | ((with_reducible refine gate_dst (N := 2) rfl ?_); refine box_event ?hg (N := 2) ?hd (cs := #[.int .i64 0, .int .u64 0]) (t := 24) ?hr ?_; (case hd => rfl); (case hg => rfl); (case hr => first | (go_simp; done) | (go_simp; rfl)); intro gb862 hg w4 hbox hb; have n0_ := am (below_step bz hb); have n1_ := am (hbox); have n2_ := am ((by rw [hg]; exact (below_size bz) : w.heap.size ≤ gb862)); have n3_ := am ((by rw [hg]; exact (below_size bz) : w.heap.size ≤ gb862)); clear HB; have HB := n0_; have BK862 := n1_; have GW862 := n2_; have GE862 := n3_; clear n0_ n1_ n2_ n3_; clear hb hbox hg) | ((with_reducible refine gate_callee (f := 83) rfl ?_); refine goesL_ (some 16) rfl rfl Tryd.func83 (by kernel_rfl) rfl #[.string a0, .string (⟨#[45]⟩ : ByteArray)] rfl (by (try simp only [List.map_toArray, List.map_cons, List.map_nil]); first | done | rfl | (simp only [List.length_drop, List.length_take]; rfl)) ?_; (with_reducible refine (strings_CutPrefix.calls a0 (⟨#[45]⟩ : ByteArray) t863 t864 _ A2.out).mono ?_); rintro e w' ⟨rfl, ⟨nd, rfl⟩⟩; refine ⟨_, rfl, ?_⟩))
 (try simp only [Act.put, List.setIfInBounds_toArray, List.set_cons_zero, List.set_cons_succ])
 go_cut [28] (fun v28 wc => ∃ (kq : Nat) (x28_2 : Bool), v28 = .bool x28_2 ∧ Aside0 (wide_Parse.j0 kq t863 t864 x28_2 = some (r1, r2, r3)) ∧ Aside0 (kq ≤ k) ∧ Aside0 (wc.heap[gb862]? = some (.cells #[.int .i64 0, .int .u64 0] 24 (0, 0))) ∧ Aside0 (Below w.heap.size w wc))
 case first =>
  have H := HC3.out; clear HC3
  replace H := Option.bind_eq_some_iff.mp H
  obtain ⟨t865, A50, H⟩ := H
  replace H : (if t865 = true then (if t864 = true then (wide_Parse.j0 k t863 t864 (t863.toList == ([48] : List UInt8))) else (wide_Parse.j0 k t863 t864 false)) else (wide_Parse.j0 k t863 t864 true)) = some (r1, r2, r3) := H
  have A5 := Aside0.mk A50; clear A50
  by_cases c6 : t865 = true
  · subst c6
    have H1 : (if t864 = true then (wide_Parse.j0 k t863 t864 (t863.toList == ([48] : List UInt8))) else (wide_Parse.j0 k t863 t864 false)) = some (r1, r2, r3) := by rw [if_pos rfl] at H; exact H
    clear H; have H := H1; clear H1
    by_cases c7 : t864 = true
    · subst c7
      have H1 : (wide_Parse.j0 k t863 true (t863.toList == ([48] : List UInt8))) = some (r1, r2, r3) := by rw [if_pos rfl] at H; exact H
      clear H; have H := H1; clear H1; have H' := Aside0.mk H; clear H
      go_wp2_with (first | ((with_reducible refine gate_callee (f := 84) rfl ?_); refine goesL_ (some 20) rfl rfl Tryd.func84 (by kernel_rfl) rfl #[.string t863] rfl (by (try simp only [List.map_toArray, List.map_cons, List.map_nil]); first | done | rfl | (simp only [List.length_drop, List.length_take]; rfl)) ?_; (with_reducible refine (wide_digits.calls k t863 true _ A5.out).mono ?_); rintro e w' ⟨rfl, ⟨nd, rfl⟩⟩; refine ⟨_, rfl, ?_⟩))
      go_meet
      case rel => exact ⟨_, ((t863.toList == ([48] : List UInt8))), (by first | rfl | (simp; done) | (simp [*]; done)), H', ⟨by first | omega | exact Nat.le_refl _⟩, ⟨by (with_reducible repeat (first | apply bA | apply bB | apply bC)); exact BK862.out⟩, ⟨by repeat (first | (with_reducible first | exact HB.out | apply dA | apply dB | apply dC | refine dE ?_ ‹_›) | exact HB.out)⟩⟩
    · replace c7 := Bool.eq_false_iff.mpr c7
      subst c7
      have H1 : (wide_Parse.j0 k t863 false false) = some (r1, r2, r3) := by rw [if_neg (show ¬ (false = true) by decide)] at H; exact H
      clear H; have H := H1; clear H1; have H' := Aside0.mk H; clear H
      go_wp2_with (first | ((with_reducible refine gate_callee (f := 84) rfl ?_); refine goesL_ (some 20) rfl rfl Tryd.func84 (by kernel_rfl) rfl #[.string t863] rfl (by (try simp only [List.map_toArray, List.map_cons, List.map_nil]); first | done | rfl | (simp only [List.length_drop, List.length_take]; rfl)) ?_; (with_reducible refine (wide_digits.calls k t863 true _ A5.out).mono ?_); rintro e w' ⟨rfl, ⟨nd, rfl⟩⟩; refine ⟨_, rfl, ?_⟩))
      go_meet
      case rel => exact ⟨_, (false), (by first | rfl | (simp; done) | (simp [*]; done)), H', ⟨by first | omega | exact Nat.le_refl _⟩, ⟨by (with_reducible repeat (first | apply bA | apply bB | apply bC)); exact BK862.out⟩, ⟨by repeat (first | (with_reducible first | exact HB.out | apply dA | apply dB | apply dC | refine dE ?_ ‹_›) | exact HB.out)⟩⟩
  · replace c6 := Bool.eq_false_iff.mpr c6
    subst c6
    have H1 : (wide_Parse.j0 k t863 t864 true) = some (r1, r2, r3) := by rw [if_neg (show ¬ (false = true) by decide)] at H; exact H
    clear H; have H := H1; clear H1; have H' := Aside0.mk H; clear H
    go_wp2_with (first | ((with_reducible refine gate_callee (f := 84) rfl ?_); refine goesL_ (some 20) rfl rfl Tryd.func84 (by kernel_rfl) rfl #[.string t863] rfl (by (try simp only [List.map_toArray, List.map_cons, List.map_nil]); first | done | rfl | (simp only [List.length_drop, List.length_take]; rfl)) ?_; (with_reducible refine (wide_digits.calls k t863 false _ A5.out).mono ?_); rintro e w' ⟨rfl, ⟨nd, rfl⟩⟩; refine ⟨_, rfl, ?_⟩))
    go_meet
    case rel => exact ⟨_, (true), (by first | rfl | (simp; done) | (simp [*]; done)), H', ⟨by first | omega | exact Nat.le_refl _⟩, ⟨by (with_reducible repeat (first | apply bA | apply bB | apply bC)); exact BK862.out⟩, ⟨by repeat (first | (with_reducible first | exact HB.out | apply dA | apply dB | apply dC | refine dE ?_ ‹_›) | exact HB.out)⟩⟩
 case rest =>
  clear HC3
  try clear p2
  try clear c5
  try clear c6
  try clear c7
  obtain ⟨kq, x28_2, rfl, HA, HJ2, BK862, HB⟩ := hcut
  cases kq with
  | zero => exact absurd HA.out (by simp [wide_Parse.j0])
  | succ kj2 =>
   have H := HA.out; clear HA
   simp only [wide_Parse.j0] at H
   by_cases c8 : x28_2 = true
   · subst c8
     have H1 : (some (0, 0, 12)) = some (r1, r2, r3) := by rw [if_pos rfl] at H; exact H
     clear H; have H := H1; clear H1
     simp only [Option.some.injEq, Prod.mk.injEq] at H
     obtain ⟨rfl, rfl, rfl⟩ := H
     have hcz9_0 : wc.cell? ⟨gb862, 0, none⟩ = some (.int .i64 0) := (blk_cell BK862.out 0).trans rfl; have hcz9_1 : wc.cell? ⟨gb862, 1, none⟩ = some (.int .u64 0) := (blk_cell BK862.out 1).trans rfl; have hfz9_0 := blk_frozen BK862.out 0; have hfz9_1 := blk_frozen BK862.out 1
     go_wp2
     refine bodyPost_ret (results_ct rfl _ _ gb862 24 #[.int .i64 0, .int .u64 0] (0, 0) _ rfl (by (with_reducible repeat (first | apply bA | apply bB | apply bC)); refine blk_put (cs := #[.int .i64 0, .int .u64 0]) ?_ 1 _ rfl; (with_reducible repeat (first | apply bA | apply bB | apply bC)); refine blk_put (cs := #[.int .i64 0, .int .u64 0]) ?_ 0 _ rfl; (with_reducible repeat (first | apply bA | apply bB | apply bC)); exact BK862.out) Tryd.underlying24 rfl (by kernel_rfl)) rfl ?_
     exact ⟨by first | rfl | (simp [errW_none, errW_some] <;> rfl) | (simp [*, errW_none, errW_some] <;> rfl), by repeat (first | (with_reducible first | exact HB.out | apply dA | apply dB | apply dC | refine dE ?_ ‹_›) | exact HB.out)⟩
   · replace c8 := Bool.eq_false_iff.mpr c8
     subst c8
     have H1 : (if (t863.size : Int) > 39 then (some (0, 0, 10)) else (wide_Parse.l0 kj2 t863 t864 (t863.size : Int) 0 0 0)) = some (r1, r2, r3) := by rw [if_neg (show ¬ (false = true) by decide)] at H; exact H
     clear H; have H := H1; clear H1
     by_cases c10 : (t863.size : Int) > 39
     · rw [if_pos c10] at H
       have c10b0 : decide (39 < (t863.size : Int)) = true := decide_eq_true c10; have c10b1 : decide (39 < t863.size) = true := decide_eq_true (by omega); clear c10
       simp only [Option.some.injEq, Prod.mk.injEq] at H
       obtain ⟨rfl, rfl, rfl⟩ := H
       have hcz11_0 : wc.cell? ⟨gb862, 0, none⟩ = some (.int .i64 0) := (blk_cell BK862.out 0).trans rfl; have hcz11_1 : wc.cell? ⟨gb862, 1, none⟩ = some (.int .u64 0) := (blk_cell BK862.out 1).trans rfl; have hfz11_0 := blk_frozen BK862.out 0; have hfz11_1 := blk_frozen BK862.out 1
       go_wp2
       refine bodyPost_ret (results_ct rfl _ _ gb862 24 #[.int .i64 0, .int .u64 0] (0, 0) _ rfl (by (with_reducible repeat (first | apply bA | apply bB | apply bC)); refine blk_put (cs := #[.int .i64 0, .int .u64 0]) ?_ 1 _ rfl; (with_reducible repeat (first | apply bA | apply bB | apply bC)); refine blk_put (cs := #[.int .i64 0, .int .u64 0]) ?_ 0 _ rfl; (with_reducible repeat (first | apply bA | apply bB | apply bC)); exact BK862.out) Tryd.underlying24 rfl (by kernel_rfl)) rfl ?_
       exact ⟨by first | rfl | (simp [errW_none, errW_some] <;> rfl) | (simp [*, errW_none, errW_some] <;> rfl), by repeat (first | (with_reducible first | exact HB.out | apply dA | apply dB | apply dC | refine dE ?_ ‹_›) | exact HB.out)⟩
     · rw [if_neg c10] at H
       have c10b0 : decide (39 < (t863.size : Int)) = false := decide_eq_false c10; have c10b1 : decide (39 < t863.size) = false := decide_eq_false (by omega); clear c10; have H' := Aside0.mk H; clear H
       go_wp2_with (first | ((with_reducible refine gate_dst (N := 6) rfl ?_); refine box_event ?hg (N := 6) ?hd (cs := #[.int .u64 0, .int .u64 0]) (t := 62) ?hr ?_; (case hd => rfl); (case hg => rfl); (case hr => first | (go_simp; done) | (go_simp; rfl)); intro gb866 hg w12 hbox hb; have n0_ := am (bb BK862 hb); have n1_ := am (below_step bz hb); have n2_ := am (hbox); have n3_ := am ((by rw [hg]; exact (below_size bz) : w.heap.size ≤ gb866)); have n4_ := am ((by rw [hg]; exact (below_size bz) : w.heap.size ≤ gb866)); have n5_ := am ((by rw [hg]; exact Nat.ne_of_lt (bl BK862) : gb862 ≠ gb866)); have n6_ := am ((by rw [hg]; exact Nat.ne_of_gt (bl BK862) : gb866 ≠ gb862)); clear BK862; clear HB; have BK862 := n0_; have HB := n1_; have BK866 := n2_; have GW866 := n3_; have GE866 := n4_; have NB862_866 := n5_; have NB866_862 := n6_; clear n0_ n1_ n2_ n3_ n4_ n5_ n6_; clear hb hbox hg))
       go_loopg [36] kj2 (fun kq v36 w' => ∃ (x36_2 : Int) (x863000_2 : Int) (x863001_2 : Int) (x867000_2 : Int) (x867001_2 : Int), v36 = .int .i64 x36_2 ∧ Aside0 (wide_Parse.l0 kq t863 t864 (t863.size : Int) x36_2 x867000_2 x867001_2 = some (r1, r2, r3)) ∧ Aside0 (kq ≤ kj2) ∧ Aside0 (w'.heap[gb862]? = some (.cells #[.int .i64 x863000_2, .int .u64 x863001_2] 24 (0, 0))) ∧ Aside0 (w'.heap[gb866]? = some (.cells #[.int .u64 x867000_2, .int .u64 x867001_2] 62 (0, 0))) ∧ Aside0 (Below w.heap.size w w'))
       case atStart => exact ⟨(0), (0), (0), (0), (0), (by first | rfl | (simp; done) | (simp [*]; done)), H', ⟨Nat.le_refl _⟩, ⟨by (with_reducible repeat (first | apply bA | apply bB | apply bC)); exact BK862.out⟩, ⟨by (with_reducible repeat (first | apply bA | apply bB | apply bC)); exact BK866.out⟩, ⟨by repeat (first | (with_reducible first | exact HB.out | apply dA | apply dB | apply dC | refine dE ?_ ‹_›) | exact HB.out)⟩⟩
       case round =>
        clear H'
        try clear c1
        try clear p2
        try clear c5
        try clear c6
        try clear c7
        try clear c8
        try clear c10
        try clear c10b0
        try clear c10b1
        try clear hcz11_0
        try clear hcz11_1
        try clear hcz9_0
        try clear hcz9_1
        try clear hfz11_0
        try clear hfz11_1
        try clear hfz9_0
        try clear hfz9_1
        try clear p2
        obtain ⟨x36_2, x863000_2, x863001_2, x867000_2, x867001_2, rfl, HA, HK2, BK862, BK866, HB⟩ := hrel
        cases gk with
        | zero => exact absurd HA.out (by simp [wide_Parse.l0])
        | succ k2 =>
         have H := HA.out; clear HA
         simp only [wide_Parse.l0] at H
         by_cases c13 : x36_2 < (t863.size : Int)
         · rw [if_pos c13] at H
           have c13b0 : decide (x36_2 < (t863.size : Int)) = true := decide_eq_true c13; clear c13
           replace H := Option.bind_eq_some_iff.mp H
           obtain ⟨⟨t870, t871⟩, A140, H⟩ := H
           replace H : ((bits_Mul64.f x867000_2 10).bind fun bt872 => (if 0 ≤ x36_2 then (if x36_2 < (t863.size : Int) then (if (addHi bt872.2 (((bt t863 x36_2) - 48) % 256) 0) ≤ 1 then (if t870 > 0 then (some (0, 0, 10)) else (if (addHi t871 bt872.1 (addHi bt872.2 (((bt t863 x36_2) - 48) % 256) 0)) > 0 then (some (0, 0, 10)) else (wide_Parse.l0 k2 t863 t864 (t863.size : Int) (wrap64 (x36_2 + 1)) (addLo bt872.2 (((bt t863 x36_2) - 48) % 256) 0) (addLo t871 bt872.1 (addHi bt872.2 (((bt t863 x36_2) - 48) % 256) 0))))) else (none)) else (none)) else (none))) = some (r1, r2, r3) := H
           have A14 := Aside0.mk A140; clear A140
           replace H := Option.bind_eq_some_iff.mp H
           obtain ⟨⟨t872, t873⟩, A150, H⟩ := H
           replace H : (if 0 ≤ x36_2 then (if x36_2 < (t863.size : Int) then (if (addHi t873 (((bt t863 x36_2) - 48) % 256) 0) ≤ 1 then (if t870 > 0 then (some (0, 0, 10)) else (if (addHi t871 t872 (addHi t873 (((bt t863 x36_2) - 48) % 256) 0)) > 0 then (some (0, 0, 10)) else (wide_Parse.l0 k2 t863 t864 (t863.size : Int) (wrap64 (x36_2 + 1)) (addLo t873 (((bt t863 x36_2) - 48) % 256) 0) (addLo t871 t872 (addHi t873 (((bt t863 x36_2) - 48) % 256) 0))))) else (none)) else (none)) else (none)) = some (r1, r2, r3) := H
           have A15 := Aside0.mk A150; clear A150
           by_cases c16 : 0 ≤ x36_2
           · rw [if_pos c16] at H
             have c16b0 : decide (0 ≤ x36_2) = true := decide_eq_true c16; clear c16
             by_cases c17 : x36_2 < (t863.size : Int)
             · rw [if_pos c17] at H
               have c17b0 : decide (x36_2 < (t863.size : Int)) = true := decide_eq_true c17; clear c17
               by_cases c19 : (addHi t873 (((bt t863 x36_2) - 48) % 256) 0) ≤ 1
               · rw [if_pos c19] at H
                 have c19b0 := eq_true c19; have c19b1 : decide ((addHi t873 (((bt t863 x36_2) - 48) % 256) 0) ≤ 1) = true := decide_eq_true c19; clear c19
                 by_cases c20 : t870 > 0
                 · rw [if_pos c20] at H
                   have c20b0 : decide (0 < t870) = true := decide_eq_true c20; clear c20
                   simp only [Option.some.injEq, Prod.mk.injEq] at H
                   obtain ⟨rfl, rfl, rfl⟩ := H
                   have hnb21 := NB866_862.out; have hnc21 := NB862_866.out; have hcz22_0 : wr.cell? ⟨gb866, 0, none⟩ = some (.int .u64 x867000_2) := (blk_cell BK866.out 0).trans rfl; have hcz22_1 : wr.cell? ⟨gb866, 1, none⟩ = some (.int .u64 x867001_2) := (blk_cell BK866.out 1).trans rfl; have hfz22_0 := blk_frozen BK866.out 0; have hfz22_1 := blk_frozen BK866.out 1
                   go_wp2_with (first | ((with_reducible refine gate_callee (f := 70) rfl ?_); refine goesL_ (some 42) rfl rfl Tryd.func70 (by kernel_rfl) rfl #[.int .u64 x867001_2, .int .u64 10] rfl (by (try simp only [List.map_toArray, List.map_cons, List.map_nil]); first | done | rfl | (simp only [List.length_drop, List.length_take]; rfl)) ?_; (with_reducible refine (bits_Mul64.calls x867001_2 10 t870 t871 _ A14.out).mono ?_); rintro e w23 ⟨rfl, hb⟩; refine ⟨_, rfl, ?_⟩; have n0_ := am (bb BK862 hb); have n1_ := am (bb BK866 hb); have n2_ := am (below_step bz hb); clear BK862; clear BK866; clear HB; have BK862 := n0_; have BK866 := n1_; have HB := n2_; clear n0_ n1_ n2_; (try clear hb); (try clear hb2); (try clear hk); (try clear hi); have hcz24_0 : w23.cell? ⟨gb866, 0, none⟩ = some (.int .u64 x867000_2) := (blk_cell BK866.out 0).trans rfl; have hcz24_1 : w23.cell? ⟨gb866, 1, none⟩ = some (.int .u64 x867001_2) := (blk_cell BK866.out 1).trans rfl; have hfz24_0 := blk_frozen BK866.out 0; have hfz24_1 := blk_frozen BK866.out 1) | ((with_reducible refine gate_callee (f := 70) rfl ?_); refine goesL_ (some 48) rfl rfl Tryd.func70 (by kernel_rfl) rfl #[.int .u64 x867000_2, .int .u64 10] rfl (by (try simp only [List.map_toArray, List.map_cons, List.map_nil]); first | done | rfl | (simp only [List.length_drop, List.length_take]; rfl)) ?_; (with_reducible refine (bits_Mul64.calls x867000_2 10 t872 t873 _ A15.out).mono ?_); rintro e w25 ⟨rfl, hb⟩; refine ⟨_, rfl, ?_⟩; have n0_ := am (bb BK862 hb); have n1_ := am (bb BK866 hb); have n2_ := am (below_step bz hb); clear BK862; clear BK866; clear HB; have BK862 := n0_; have BK866 := n1_; have HB := n2_; clear n0_ n1_ n2_; (try clear hb); (try clear hb2); (try clear hk); (try clear hi); have p18 : 0 ≤ (x36_2 : Int) := of_decide_eq_true (by first | (with_reducible assumption) | assumption); have q18 : x36_2 < (t863.size : Int) := of_decide_eq_true (by first | (with_reducible assumption) | assumption); have hx18 := bt_at t863 x36_2; replace p18 := eq_true p18; replace q18 := eq_true q18; have hcz26_0 : w25.cell? ⟨gb862, 0, none⟩ = some (.int .i64 x863000_2) := (blk_cell BK862.out 0).trans rfl; have hcz26_1 : w25.cell? ⟨gb862, 1, none⟩ = some (.int .u64 x863001_2) := (blk_cell BK862.out 1).trans rfl; have hfz26_0 := blk_frozen BK862.out 0; have hfz26_1 := blk_frozen BK862.out 1))
                   refine bodyPost_ret (results_ct rfl _ _ gb862 24 #[.int .i64 0, .int .u64 0] (0, 0) _ rfl (by (with_reducible repeat (first | apply bA | apply bB | apply bC)); refine blk_put (cs := #[.int .i64 0, .int .u64 x863001_2]) ?_ 1 _ rfl; (with_reducible repeat (first | apply bA | apply bB | apply bC)); refine blk_put (cs := #[.int .i64 x863000_2, .int .u64 x863001_2]) ?_ 0 _ rfl; (with_reducible repeat (first | apply bA | apply bB | apply bC)); exact BK862.out) Tryd.underlying24 rfl (by kernel_rfl)) rfl ?_
                   exact ⟨by first | rfl | (simp [errW_none, errW_some] <;> rfl) | (simp [*, errW_none, errW_some] <;> rfl), by repeat (first | (with_reducible first | exact HB.out | apply dA | apply dB | apply dC | refine dE ?_ ‹_›) | exact HB.out)⟩
                 · rw [if_neg c20] at H
                   have c20b0 : decide (0 < t870) = false := decide_eq_false c20; clear c20
                   by_cases c27 : (addHi t871 t872 (addHi t873 (((bt t863 x36_2) - 48) % 256) 0)) > 0
                   · rw [if_pos c27] at H
                     have c27b0 : decide (0 < (addHi t871 t872 (addHi t873 (((bt t863 x36_2) - 48) % 256) 0))) = true := decide_eq_true c27; clear c27
                     simp only [Option.some.injEq, Prod.mk.injEq] at H
                     obtain ⟨rfl, rfl, rfl⟩ := H
                     have hnb28 := NB866_862.out; have hnc28 := NB862_866.out; have hcz29_0 : wr.cell? ⟨gb866, 0, none⟩ = some (.int .u64 x867000_2) := (blk_cell BK866.out 0).trans rfl; have hcz29_1 : wr.cell? ⟨gb866, 1, none⟩ = some (.int .u64 x867001_2) := (blk_cell BK866.out 1).trans rfl; have hfz29_0 := blk_frozen BK866.out 0; have hfz29_1 := blk_frozen BK866.out 1
                     go_wp2_with (first | ((with_reducible refine gate_callee (f := 70) rfl ?_); refine goesL_ (some 42) rfl rfl Tryd.func70 (by kernel_rfl) rfl #[.int .u64 x867001_2, .int .u64 10] rfl (by (try simp only [List.map_toArray, List.map_cons, List.map_nil]); first | done | rfl | (simp only [List.length_drop, List.length_take]; rfl)) ?_; (with_reducible refine (bits_Mul64.calls x867001_2 10 t870 t871 _ A14.out).mono ?_); rintro e w30 ⟨rfl, hb⟩; refine ⟨_, rfl, ?_⟩; have n0_ := am (bb BK862 hb); have n1_ := am (bb BK866 hb); have n2_ := am (below_step bz hb); clear BK862; clear BK866; clear HB; have BK862 := n0_; have BK866 := n1_; have HB := n2_; clear n0_ n1_ n2_; (try clear hb); (try clear hb2); (try clear hk); (try clear hi); have hcz31_0 : w30.cell? ⟨gb866, 0, none⟩ = some (.int .u64 x867000_2) := (blk_cell BK866.out 0).trans rfl; have hcz31_1 : w30.cell? ⟨gb866, 1, none⟩ = some (.int .u64 x867001_2) := (blk_cell BK866.out 1).trans rfl; have hfz31_0 := blk_frozen BK866.out 0; have hfz31_1 := blk_frozen BK866.out 1) | ((with_reducible refine gate_callee (f := 70) rfl ?_); refine goesL_ (some 48) rfl rfl Tryd.func70 (by kernel_rfl) rfl #[.int .u64 x867000_2, .int .u64 10] rfl (by (try simp only [List.map_toArray, List.map_cons, List.map_nil]); first | done | rfl | (simp only [List.length_drop, List.length_take]; rfl)) ?_; (with_reducible refine (bits_Mul64.calls x867000_2 10 t872 t873 _ A15.out).mono ?_); rintro e w32 ⟨rfl, hb⟩; refine ⟨_, rfl, ?_⟩; have n0_ := am (bb BK862 hb); have n1_ := am (bb BK866 hb); have n2_ := am (below_step bz hb); clear BK862; clear BK866; clear HB; have BK862 := n0_; have BK866 := n1_; have HB := n2_; clear n0_ n1_ n2_; (try clear hb); (try clear hb2); (try clear hk); (try clear hi); have p18 : 0 ≤ (x36_2 : Int) := of_decide_eq_true (by first | (with_reducible assumption) | assumption); have q18 : x36_2 < (t863.size : Int) := of_decide_eq_true (by first | (with_reducible assumption) | assumption); have hx18 := bt_at t863 x36_2; replace p18 := eq_true p18; replace q18 := eq_true q18; have hcz33_0 : w32.cell? ⟨gb862, 0, none⟩ = some (.int .i64 x863000_2) := (blk_cell BK862.out 0).trans rfl; have hcz33_1 : w32.cell? ⟨gb862, 1, none⟩ = some (.int .u64 x863001_2) := (blk_cell BK862.out 1).trans rfl; have hfz33_0 := blk_frozen BK862.out 0; have hfz33_1 := blk_frozen BK862.out 1))
                     refine bodyPost_ret (results_ct rfl _ _ gb862 24 #[.int .i64 0, .int .u64 0] (0, 0) _ rfl (by (with_reducible repeat (first | apply bA | apply bB | apply bC)); refine blk_put (cs := #[.int .i64 0, .int .u64 x863001_2]) ?_ 1 _ rfl; (with_reducible repeat (first | apply bA | apply bB | apply bC)); refine blk_put (cs := #[.int .i64 x863000_2, .int .u64 x863001_2]) ?_ 0 _ rfl; (with_reducible repeat (first | apply bA | apply bB | apply bC)); exact BK862.out) Tryd.underlying24 rfl (by kernel_rfl)) rfl ?_
                     exact ⟨by first | rfl | (simp [errW_none, errW_some] <;> rfl) | (simp [*, errW_none, errW_some] <;> rfl), by repeat (first | (with_reducible first | exact HB.out | apply dA | apply dB | apply dC | refine dE ?_ ‹_›) | exact HB.out)⟩
                   · rw [if_neg c27] at H
                     have c27b0 : decide (0 < (addHi t871 t872 (addHi t873 (((bt t863 x36_2) - 48) % 256) 0))) = false := decide_eq_false c27; clear c27; have H' := Aside0.mk H; clear H; have hnb34 := NB866_862.out; have hnc34 := NB862_866.out; have hcz35_0 : wr.cell? ⟨gb866, 0, none⟩ = some (.int .u64 x867000_2) := (blk_cell BK866.out 0).trans rfl; have hcz35_1 : wr.cell? ⟨gb866, 1, none⟩ = some (.int .u64 x867001_2) := (blk_cell BK866.out 1).trans rfl; have hfz35_0 := blk_frozen BK866.out 0; have hfz35_1 := blk_frozen BK866.out 1
                     go_wp2_with (first | ((with_reducible refine gate_callee (f := 70) rfl ?_); refine goesL_ (some 42) rfl rfl Tryd.func70 (by kernel_rfl) rfl #[.int .u64 x867001_2, .int .u64 10] rfl (by (try simp only [List.map_toArray, List.map_cons, List.map_nil]); first | done | rfl | (simp only [List.length_drop, List.length_take]; rfl)) ?_; (with_reducible refine (bits_Mul64.calls x867001_2 10 t870 t871 _ A14.out).mono ?_); rintro e w36 ⟨rfl, hb⟩; refine ⟨_, rfl, ?_⟩; have n0_ := am (bb BK862 hb); have n1_ := am (bb BK866 hb); have n2_ := am (below_step bz hb); clear BK862; clear BK866; clear HB; have BK862 := n0_; have BK866 := n1_; have HB := n2_; clear n0_ n1_ n2_; (try clear hb); (try clear hb2); (try clear hk); (try clear hi); have hcz37_0 : w36.cell? ⟨gb866, 0, none⟩ = some (.int .u64 x867000_2) := (blk_cell BK866.out 0).trans rfl; have hcz37_1 : w36.cell? ⟨gb866, 1, none⟩ = some (.int .u64 x867001_2) := (blk_cell BK866.out 1).trans rfl; have hfz37_0 := blk_frozen BK866.out 0; have hfz37_1 := blk_frozen BK866.out 1) | ((with_reducible refine gate_callee (f := 70) rfl ?_); refine goesL_ (some 48) rfl rfl Tryd.func70 (by kernel_rfl) rfl #[.int .u64 x867000_2, .int .u64 10] rfl (by (try simp only [List.map_toArray, List.map_cons, List.map_nil]); first | done | rfl | (simp only [List.length_drop, List.length_take]; rfl)) ?_; (with_reducible refine (bits_Mul64.calls x867000_2 10 t872 t873 _ A15.out).mono ?_); rintro e w38 ⟨rfl, hb⟩; refine ⟨_, rfl, ?_⟩; have n0_ := am (bb BK862 hb); have n1_ := am (bb BK866 hb); have n2_ := am (below_step bz hb); clear BK862; clear BK866; clear HB; have BK862 := n0_; have BK866 := n1_; have HB := n2_; clear n0_ n1_ n2_; (try clear hb); (try clear hb2); (try clear hk); (try clear hi); have p18 : 0 ≤ (x36_2 : Int) := of_decide_eq_true (by first | (with_reducible assumption) | assumption); have q18 : x36_2 < (t863.size : Int) := of_decide_eq_true (by first | (with_reducible assumption) | assumption); have hx18 := bt_at t863 x36_2; replace p18 := eq_true p18; replace q18 := eq_true q18; have hcz39_0 : w38.cell? ⟨gb866, 0, none⟩ = some (.int .u64 x867000_2) := (blk_cell BK866.out 0).trans rfl; have hcz39_1 : w38.cell? ⟨gb866, 1, none⟩ = some (.int .u64 x867001_2) := (blk_cell BK866.out 1).trans rfl; have hfz39_0 := blk_frozen BK866.out 0; have hfz39_1 := blk_frozen BK866.out 1))
                     go_roundg k2
                     case measure => have := HJ2.out; have := HK2.out; omega
                     case rel => exact ⟨(wrap64 (x36_2 + 1)), (x863000_2), (x863001_2), (addLo t873 (((bt t863 x36_2) - 48) % 256) 0), (addLo t871 t872 (addHi t873 (((bt t863 x36_2) - 48) % 256) 0)), (by first | rfl | (simp; done) | (simp [*]; done)), H', ⟨by have := HJ2.out; have := HK2.out; omega⟩, ⟨by (with_reducible repeat (first | apply bA | apply bB | apply bC)); refine blk_far ?_ NB862_866.out _; (with_reducible repeat (first | apply bA | apply bB | apply bC)); refine blk_far ?_ NB862_866.out _; (with_reducible repeat (first | apply bA | apply bB | apply bC)); exact BK862.out⟩, ⟨by (with_reducible repeat (first | apply bA | apply bB | apply bC)); refine blk_put (cs := #[.int .u64 (addLo t873 (((bt t863 x36_2) - 48) % 256) 0), .int .u64 x867001_2]) ?_ 1 _ rfl; (with_reducible repeat (first | apply bA | apply bB | apply bC)); refine blk_put (cs := #[.int .u64 x867000_2, .int .u64 x867001_2]) ?_ 0 _ rfl; (with_reducible repeat (first | apply bA | apply bB | apply bC)); exact BK866.out⟩, ⟨by repeat (first | (with_reducible first | exact HB.out | apply dA | apply dB | apply dC | refine dE ?_ ‹_›) | exact HB.out)⟩⟩
               · rw [if_neg c19] at H
                 exact absurd H (by simp)
             · rw [if_neg c17] at H
               exact absurd H (by simp)
           · rw [if_neg c16] at H
             exact absurd H (by simp)
         · rw [if_neg c13] at H
           have c13b0 : decide (x36_2 < (t863.size : Int)) = false := decide_eq_false c13; clear c13
           replace H := Option.bind_eq_some_iff.mp H
           obtain ⟨⟨t867, t868, t869⟩, A400, H⟩ := H
           replace H : (some (t867, t868, t869)) = some (r1, r2, r3) := H
           have A40 := Aside0.mk A400; clear A400
           simp only [Option.some.injEq, Prod.mk.injEq] at H
           obtain ⟨rfl, rfl, rfl⟩ := H
           have hnb41 := NB866_862.out; have hnc41 := NB862_866.out; have hcz42_0 : wr.cell? ⟨gb866, 0, none⟩ = some (.int .u64 x867000_2) := (blk_cell BK866.out 0).trans rfl; have hcz42_1 : wr.cell? ⟨gb866, 1, none⟩ = some (.int .u64 x867001_2) := (blk_cell BK866.out 1).trans rfl; have hfz42_0 := blk_frozen BK866.out 0; have hfz42_1 := blk_frozen BK866.out 1
           go_wp2_with (first | ((with_reducible refine gate_callee (f := 72) rfl ?_); refine goesL_ (some 81) rfl rfl Tryd.func72 (by kernel_rfl) rfl #[.agg #[.int .u64 x867000_2, .int .u64 x867001_2], .bool t864] rfl (by (try simp only [List.map_toArray, List.map_cons, List.map_nil]); first | done | rfl | (simp only [List.length_drop, List.length_take]; rfl)) ?_; (with_reducible refine (wide_signed.calls k2 x867000_2 x867001_2 t864 t867 t868 t869 _ A40.out).mono ?_); rintro e w43 ⟨rfl, hb⟩; refine ⟨_, rfl, ?_⟩; have n0_ := am (bb BK862 hb); have n1_ := am (bb BK866 hb); have n2_ := am (below_step bz hb); clear BK862; clear BK866; clear HB; have BK862 := n0_; have BK866 := n1_; have HB := n2_; clear n0_ n1_ n2_; (try clear hb); (try clear hb2); (try clear hk); (try clear hi); have hcz44_0 : w43.cell? ⟨gb862, 0, none⟩ = some (.int .i64 x863000_2) := (blk_cell BK862.out 0).trans rfl; have hcz44_1 : w43.cell? ⟨gb862, 1, none⟩ = some (.int .u64 x863001_2) := (blk_cell BK862.out 1).trans rfl; have hfz44_0 := blk_frozen BK862.out 0; have hfz44_1 := blk_frozen BK862.out 1))
           refine bodyPost_ret (results_ct rfl _ _ gb862 24 #[.int .i64 t867, .int .u64 t868] (0, 0) _ rfl (by (with_reducible repeat (first | apply bA | apply bB | apply bC)); refine blk_put (cs := #[.int .i64 t867, .int .u64 x863001_2]) ?_ 1 _ rfl; (with_reducible repeat (first | apply bA | apply bB | apply bC)); refine blk_put (cs := #[.int .i64 x863000_2, .int .u64 x863001_2]) ?_ 0 _ rfl; (with_reducible repeat (first | apply bA | apply bB | apply bC)); exact BK862.out) Tryd.underlying24 rfl (by kernel_rfl)) rfl ?_
           exact ⟨by first | rfl | (simp [errW_none, errW_some] <;> rfl) | (simp [*, errW_none, errW_some] <;> rfl), by repeat (first | (with_reducible first | exact HB.out | apply dA | apply dB | apply dC | refine dE ?_ ‹_›) | exact HB.out)⟩

end Go.Proofs.YtcfhmbhlibhlnaaDoor.P
