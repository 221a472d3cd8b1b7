-- Printed by this session's own pp.py (wip/tool) out of the translation.
import Derived.Test.YtifhebempfjcmaaPx0
import Derived.Test.YtifhebempfjcmaaPxf32
import Derived.Test.YtifhebempfjcmaaPxf31
import Derived.Test.YtifhebempfjcmaaPxf31d
import Derived.Test.YtifhebempfjcmaaPxf37
import Derived.Test.YtifhebempfjcmaaPxf38
namespace Go.Proofs.Ytifhebempfjcmaa.P
open Go.RowKit Go.Proofs.YtifhebempfjcmaaW.PrintWords Go.Proofs.YtifhebempfjcmaaW.PrintLast Go.Proofs.YtifhebempfjcmaaW.PrintMore Go.Proofs.Ytifhebempfjcmaa.Mine
attribute [local go_sem] ext45 ext46
attribute [local go_sem] max2_int min2_int max_two min_two max_three min_three max_four min_four   -- for this text's walks alone
set_option linter.unusedVariables false
set_option linter.unusedSimpArgs false

/-! ### micro_part: function 39 -/
def micro_part.f (k : Nat) (a0 : Int) (a1 : Int) (a2 : Int) : Option (Int × Int) := (wide_Of.f a0).bind fun bt302 => ((wide_Of.f a1).bind fun bt304 => ((wide_Mul.f k bt302.1 bt302.2 bt304.1 bt304.2).bind fun bt306 => (if bt306.2.2 = 0 then ((wide_Of.f a2).bind fun bt310 => ((wide_Quo.f k bt306.1 bt306.2.1 bt310.1 bt310.2).bind fun bt312 => ((micro_small.f bt312.1 bt312.2.1 bt312.2.2.2.2).bind fun bt319 => (some (bt319.1, bt319.2))))) else (some (0, 10)))))
theorem micro_part.mono : ∀ a0 a1 a2 k, LeO (micro_part.f k a0 a1 a2) (micro_part.f (k + 1) a0 a1 a2) := by
 intro a0 a1 a2 k
 unfold micro_part.f
 repeat' first
  | (with_reducible exact wide_Mul.mono _ _ _ _ _)
  | (with_reducible exact wide_Quo.mono _ _ _ _ _)
  | (with_reducible exact LeO.refl _)
  | (with_reducible exact LeO.none _)
  | (with_reducible refine LeO.ite ?_ ?_)
  | (with_reducible refine LeO.bind ?_ (fun _ => ?_))
  | exact wide_Mul.mono _ _ _ _ _
  | exact wide_Quo.mono _ _ _ _ _
  | exact LeO.none _
  | refine LeO.ite ?_ ?_
  | refine LeO.bind ?_ (fun _ => ?_)
def micro_part.T4 : Bool × List (List Nat × List Nat) := (true, [([], []), ([], []), ([1], [1]), ([0, 2, 2], [0, 2]), ([3], [3]), ([4], [4]), ([4], [4]), ([4], [4]), ([], []), ([], []), ([8, 5, 3, 0, 1, 2, 3, 4, 5, 8, 9], [5, 8]), ([9, 6, 10, 0, 1, 2, 3, 4, 5, 6, 8, 9, 10], [6, 9]), ([7, 11, 0, 1, 2, 3, 4, 5, 6, 7, 8, 9, 10, 11], [7])])
def micro_part.B4 : List Nat := [0, 0, 2, 7, 15, 31, 31, 31, 0, 0, 831, 1919, 4095]
theorem micro_part.tab4 : rtab .any (opsOf Try.f39 4) = micro_part.T4 := by kernel_rfl
theorem micro_part.bits4 : waitsOk micro_part.T4.2 micro_part.B4 = true := by kernel_rfl
set_option maxHeartbeats 8000000 in
set_option maxRecDepth 100000 in
theorem micro_part.calls (k : Nat) (a0 : Int) (a1 : Int) (a2 : Int) (r1 : Int) (r2 : Int) (w : World) (h : micro_part.f k a0 a1 a2 = some (r1, r2)) :
 Calls Try.prog 39 #[.int .i64 a0, .int .i64 a1, .int .i64 a2] w fun e w' => e = .returned (.tuple #[.int .i64 r1, .int .i64 r2]) ∧ Below w.heap.size w w' := by
 have hu24 := Try.underlying24; have HB := am (Below.refl w.heap.size w); have H : ((wide_Of.f a0).bind fun bt302 => ((wide_Of.f a1).bind fun bt304 => ((wide_Mul.f k bt302.1 bt302.2 bt304.1 bt304.2).bind fun bt306 => (if bt306.2.2 = 0 then ((wide_Of.f a2).bind fun bt310 => ((wide_Quo.f k bt306.1 bt306.2.1 bt310.1 bt310.2).bind fun bt312 => ((micro_small.f bt312.1 bt312.2.1 bt312.2.2.2.2).bind fun bt319 => (some (bt319.1, bt319.2))))) else (some (0, 10)))))) = some (r1, r2) := h; clear h
 replace H := Option.bind_eq_some_iff.mp H
 obtain ⟨⟨t302, t303⟩, A40, H⟩ := H
 replace H : ((wide_Of.f a1).bind fun bt304 => ((wide_Mul.f k t302 t303 bt304.1 bt304.2).bind fun bt306 => (if bt306.2.2 = 0 then ((wide_Of.f a2).bind fun bt310 => ((wide_Quo.f k bt306.1 bt306.2.1 bt310.1 bt310.2).bind fun bt312 => ((micro_small.f bt312.1 bt312.2.1 bt312.2.2.2.2).bind fun bt319 => (some (bt319.1, bt319.2))))) else (some (0, 10))))) = some (r1, r2) := H
 have A4 := Aside0.mk A40; clear A40
 replace H := Option.bind_eq_some_iff.mp H
 obtain ⟨⟨t304, t305⟩, A50, H⟩ := H
 replace H : ((wide_Mul.f k t302 t303 t304 t305).bind fun bt306 => (if bt306.2.2 = 0 then ((wide_Of.f a2).bind fun bt310 => ((wide_Quo.f k bt306.1 bt306.2.1 bt310.1 bt310.2).bind fun bt312 => ((micro_small.f bt312.1 bt312.2.1 bt312.2.2.2.2).bind fun bt319 => (some (bt319.1, bt319.2))))) else (some (0, 10)))) = some (r1, r2) := H
 have A5 := Aside0.mk A50; clear A50
 replace H := Option.bind_eq_some_iff.mp H
 obtain ⟨⟨t306, t307, t308⟩, A60, H⟩ := H
 replace H : (if t308 = 0 then ((wide_Of.f a2).bind fun bt310 => ((wide_Quo.f k t306 t307 bt310.1 bt310.2).bind fun bt312 => ((micro_small.f bt312.1 bt312.2.1 bt312.2.2.2.2).bind fun bt319 => (some (bt319.1, bt319.2))))) else (some (0, 10))) = some (r1, r2) := H
 have A6 := Aside0.mk A60; clear A60
 by_cases c7 : t308 = 0
 · rw [if_pos c7] at H
   have c7b0 : (t308 == 0) = true := beq_iff_eq.mpr c7; have c7b1 : (t308 != 0) = false := bne_eq_false_iff_eq.mpr c7; clear c7
   replace H := Option.bind_eq_some_iff.mp H
   obtain ⟨⟨t310, t311⟩, A80, H⟩ := H
   replace H : ((wide_Quo.f k t306 t307 t310 t311).bind fun bt312 => ((micro_small.f bt312.1 bt312.2.1 bt312.2.2.2.2).bind fun bt319 => (some (bt319.1, bt319.2)))) = some (r1, r2) := H
   have A8 := Aside0.mk A80; clear A80
   replace H := Option.bind_eq_some_iff.mp H
   obtain ⟨⟨t312, t313, t314, t315, t316⟩, A90, H⟩ := H
   replace H : ((micro_small.f t312 t313 t316).bind fun bt319 => (some (bt319.1, bt319.2))) = some (r1, r2) := H
   have A9 := Aside0.mk A90; clear A90
   replace H := Option.bind_eq_some_iff.mp H
   obtain ⟨⟨t319, t320⟩, A100, H⟩ := H
   replace H : (some (t319, t320)) = some (r1, r2) := H
   have A10 := Aside0.mk A100; clear A100
   simp only [Option.some.injEq, Prod.mk.injEq] at H
   obtain ⟨rfl, rfl⟩ := H
   go_enter Try.func39, Try.ntmps39
   try go_wp2_with (first | ((with_reducible refine gate_callee (f := 32) rfl ?_); refine goesL_ (some 14) rfl rfl Try.func32 (by kernel_rfl) rfl #[.int .i64 a0] rfl (by (try simp only [List.map_toArray, List.map_cons, List.map_nil]); first | done | rfl | (simp only [List.length_drop, List.length_take]; rfl)) ?_; (with_reducible refine (wide_Of.calls a0 t302 t303 _ A4.out).mono ?_); rintro e w11 ⟨rfl, hb⟩; refine ⟨_, rfl, ?_⟩; have n0_ := am (below_step bz hb); clear HB; have HB := n0_; clear n0_; (try clear hb); (try clear hb2); (try clear hk); (try clear hi)) | ((with_reducible refine gate_callee (f := 32) rfl ?_); refine goesL_ (some 16) rfl rfl Try.func32 (by kernel_rfl) rfl #[.int .i64 a1] rfl (by (try simp only [List.map_toArray, List.map_cons, List.map_nil]); first | done | rfl | (simp only [List.length_drop, List.length_take]; rfl)) ?_; (with_reducible refine (wide_Of.calls a1 t304 t305 _ A5.out).mono ?_); rintro e w12 ⟨rfl, hb⟩; refine ⟨_, rfl, ?_⟩; have n0_ := am (below_step bz hb); clear HB; have HB := n0_; clear n0_; (try clear hb); (try clear hb2); (try clear hk); (try clear hi)) | ((with_reducible refine gate_callee (f := 37) rfl ?_); refine goesL_ (some 17) rfl rfl Try.func37 (by kernel_rfl) rfl #[.agg #[.int .i64 t302, .int .u64 t303], .agg #[.int .i64 t304, .int .u64 t305]] rfl (by (try simp only [List.map_toArray, List.map_cons, List.map_nil]); first | done | rfl | (simp only [List.length_drop, List.length_take]; rfl)) ?_; (with_reducible refine (wide_Mul.calls k t302 t303 t304 t305 t306 t307 t308 _ A6.out).mono ?_); rintro e w13 ⟨rfl, hb⟩; refine ⟨_, rfl, ?_⟩; have n0_ := am (below_step bz hb); clear HB; have HB := n0_; clear n0_; (try clear hb); (try clear hb2); (try clear hk); (try clear hi)) | ((with_reducible refine gate_dst (N := 8) rfl ?_); refine box_event ?hg (N := 8) ?hd (cs := #[.int .i64 0, .int .u64 0]) (t := 24) ?hr ?_; (case hd => rfl); (case hg => rfl); (case hr => first | (go_simp; done) | (go_simp; rfl)); intro gb309 hg w14 hbox hb; have n0_ := am (below_step bz hb); have n1_ := am (hbox); have n2_ := am ((by rw [hg]; exact (below_size bz) : w.heap.size ≤ gb309)); have n3_ := am ((by rw [hg]; exact (below_size bz) : w.heap.size ≤ gb309)); clear HB; have HB := n0_; have BK309 := n1_; have GW309 := n2_; have GE309 := n3_; clear n0_ n1_ n2_ n3_; clear hb hbox hg; have hcz15_0 : w14.cell? ⟨gb309, 0, none⟩ = some (.int .i64 0) := (blk_cell BK309.out 0).trans rfl; have hcz15_1 : w14.cell? ⟨gb309, 1, none⟩ = some (.int .u64 0) := (blk_cell BK309.out 1).trans rfl; have hfz15_0 := blk_frozen BK309.out 0; have hfz15_1 := blk_frozen BK309.out 1))
   have n0_ : Aside0 (((w14.setCell ⟨gb309, 0, none⟩ (.int .i64 t306)).setCell ⟨gb309, 1, none⟩ (.int .u64 t307)).heap[gb309]? = some (.cells #[.int .i64 t306, .int .u64 t307] 24 (0, 0))) := ⟨by (with_reducible repeat (first | apply bA | apply bB | apply bC)); refine blk_put (cs := #[.int .i64 t306, .int .u64 0]) ?_ 1 _ rfl; (with_reducible repeat (first | apply bA | apply bB | apply bC)); refine blk_put (cs := #[.int .i64 0, .int .u64 0]) ?_ 0 _ rfl; (with_reducible repeat (first | apply bA | apply bB | apply bC)); exact BK309.out⟩; have n1_ : Aside0 (Below w.heap.size w ((w14.setCell ⟨gb309, 0, none⟩ (.int .i64 t306)).setCell ⟨gb309, 1, none⟩ (.int .u64 t307))) := ⟨by repeat (first | (with_reducible first | exact HB.out | apply dA | apply dB | apply dC | refine dE ?_ ‹_›) | exact HB.out)⟩; (try clear BK309); (try clear HB); generalize ((w14.setCell ⟨gb309, 0, none⟩ (.int .i64 t306)).setCell ⟨gb309, 1, none⟩ (.int .u64 t307)) = w16 at n0_ n1_ ⊢; have BK309 := n0_; have HB := n1_; clear n0_ n1_; have n0_ := am (blk_drew BK309.out); have n1_ := am (below_drew1 HB.out); clear BK309 HB; have BK309 := n0_; have HB := n1_; clear n0_ n1_
   refine start_ (n := 13) (S := fun w' => w'.cell? ⟨gb309, 0, none⟩ = some (.int .i64 t306) ∧ w'.cell? ⟨gb309, 1, none⟩ = some (.int .u64 t307)) (ds := []) #[false, false, false, false, false, false, false, false, false, false, false, false, false] (by kernel_rfl) rfl rfl ⟨(blk_cell BK309.out 0).trans rfl, (blk_cell BK309.out 1).trans rfl⟩ (fun hHeld => ?_); refine with_tabW micro_part.tab4 micro_part.bits4 (fun HT_ HW_ => ?_)
   generalize w16.drew = w17 at BK309 HB hHeld ⊢
   refine pure_ (i := 1) (N := some 24) (v := ?_) (a' := ?_) #[false, true, false, false, false, false, false, false, false, false, false, false, false] rfl rfl (any_of HT_.out (by kernel_rfl)) (fun _ _ _ h => h) (Or.inl ⟨by rfl, ?_⟩) ?_ ?_
   rotate_left
   · intro w'
     go_simp
     with_reducible rfl
   rotate_left
   · simp only [Act.put, List.setIfInBounds_toArray, List.set_cons_zero, List.set_cons_succ, i64_w, i32_w]
     rfl
   refine take_ (i := 0) (N := some 23) (v := ?_) (a' := ?_) #[true, true, false, false, false, false, false, false, false, false, false, false, false] rfl rfl (take_ofW HT_.out HW_.out (by kernel_rfl)) (fun _ _ _ h => h) (Or.inl ⟨by rfl, ?_⟩) hHeld ?_ ?_
   rotate_left
   · rintro w' ⟨s0, s1⟩
     go_simp
     with_reducible rfl
   rotate_left
   · simp only [Act.put, List.setIfInBounds_toArray, List.set_cons_zero, List.set_cons_succ, i64_w, i32_w]
     rfl
   refine join_ (σ := Nat × Nat) 3 #[true, true, true, true, true, true, true, true, true, true, false, false, false] (fun s_ => [(25, .agg #[.int .i64 t310, .int .u64 t311]), (26, .tuple #[.agg #[.int .i64 t312, .int .u64 t313], .agg #[.int .i64 t314, .int .u64 t315], .int .i64 t316]), (10, .pointer (some ⟨s_.1, 0, none⟩)), (11, .pointer (some ⟨s_.2, 0, none⟩)), (22, .tuple #[.agg #[.int .i64 t312, .int .u64 t313], .agg #[.int .i64 t314, .int .u64 t315], .int .i64 t316]), (27, .agg #[.int .i64 t312, .int .u64 t313]), (28, .agg #[.int .i64 t314, .int .u64 t315]), (29, .int .i64 t316)]) (fun s_ w' => (w'.cell? ⟨gb309, 0, none⟩ = some (.int .i64 t306) ∧ w'.cell? ⟨gb309, 1, none⟩ = some (.int .u64 t307)) ∧ (w'.heap[gb309]? = some (.cells #[.int .i64 t306, .int .u64 t307] 24 (0, 0))) ∧ (w'.heap[s_.1]? = some (.cells #[.int .i64 0, .int .u64 0] 24 (0, 0))) ∧ (w'.heap[s_.2]? = some (.cells #[.int .i64 0, .int .u64 0] 24 (0, 0))) ∧ (w.heap.size ≤ s_.1) ∧ (w.heap.size ≤ s_.1) ∧ (gb309 ≠ s_.1) ∧ (s_.1 ≠ gb309) ∧ (s_.2 ≠ s_.1) ∧ (s_.1 ≠ s_.2) ∧ (w.heap.size ≤ s_.2) ∧ (w.heap.size ≤ s_.2) ∧ (gb309 ≠ s_.2) ∧ (s_.2 ≠ gb309) ∧ (Below w.heap.size w w')) ?_ ?_
   rotate_left
   · intro hJ2_3_8_9
     refine join_ (σ := Nat) 4 #[true, true, true, true, true, true, true, true, true, false, false, false, false] (fun s_ => [(25, .agg #[.int .i64 t310, .int .u64 t311]), (26, .tuple #[.agg #[.int .i64 t312, .int .u64 t313], .agg #[.int .i64 t314, .int .u64 t315], .int .i64 t316]), (10, .pointer (some ⟨s_, 0, none⟩)), (22, .tuple #[.agg #[.int .i64 t312, .int .u64 t313], .agg #[.int .i64 t314, .int .u64 t315], .int .i64 t316]), (27, .agg #[.int .i64 t312, .int .u64 t313]), (28, .agg #[.int .i64 t314, .int .u64 t315]), (29, .int .i64 t316)]) (fun s_ w' => (w'.cell? ⟨gb309, 0, none⟩ = some (.int .i64 t306) ∧ w'.cell? ⟨gb309, 1, none⟩ = some (.int .u64 t307)) ∧ (w'.heap[gb309]? = some (.cells #[.int .i64 t306, .int .u64 t307] 24 (0, 0))) ∧ (w'.heap[s_]? = some (.cells #[.int .i64 0, .int .u64 0] 24 (0, 0))) ∧ (w.heap.size ≤ s_) ∧ (w.heap.size ≤ s_) ∧ (gb309 ≠ s_) ∧ (s_ ≠ gb309) ∧ (Below w.heap.size w w')) ?_ ?_
     rotate_left
     · intro hJ2_3_8
       refine join_ (σ := Nat) 4 #[true, true, true, true, true, true, true, true, false, true, false, false, false] (fun s_ => [(25, .agg #[.int .i64 t310, .int .u64 t311]), (26, .tuple #[.agg #[.int .i64 t312, .int .u64 t313], .agg #[.int .i64 t314, .int .u64 t315], .int .i64 t316]), (11, .pointer (some ⟨s_, 0, none⟩)), (22, .tuple #[.agg #[.int .i64 t312, .int .u64 t313], .agg #[.int .i64 t314, .int .u64 t315], .int .i64 t316]), (27, .agg #[.int .i64 t312, .int .u64 t313]), (28, .agg #[.int .i64 t314, .int .u64 t315]), (29, .int .i64 t316)]) (fun s_ w' => (w'.cell? ⟨gb309, 0, none⟩ = some (.int .i64 t306) ∧ w'.cell? ⟨gb309, 1, none⟩ = some (.int .u64 t307)) ∧ (w'.heap[gb309]? = some (.cells #[.int .i64 t306, .int .u64 t307] 24 (0, 0))) ∧ (w'.heap[s_]? = some (.cells #[.int .i64 0, .int .u64 0] 24 (0, 0))) ∧ (w.heap.size ≤ s_) ∧ (w.heap.size ≤ s_) ∧ (gb309 ≠ s_) ∧ (s_ ≠ gb309) ∧ (Below w.heap.size w w')) ?_ ?_
       rotate_left
       · intro hJ2_3_9
         refine join_ (σ := Nat × Nat) 8 #[true, true, true, false, false, false, false, false, true, true, false, false, false] (fun s_ => [(25, .agg #[.int .i64 t310, .int .u64 t311]), (10, .pointer (some ⟨s_.1, 0, none⟩)), (11, .pointer (some ⟨s_.2, 0, none⟩))]) (fun s_ w' => (w'.cell? ⟨gb309, 0, none⟩ = some (.int .i64 t306) ∧ w'.cell? ⟨gb309, 1, none⟩ = some (.int .u64 t307)) ∧ (w'.heap[gb309]? = some (.cells #[.int .i64 t306, .int .u64 t307] 24 (0, 0))) ∧ (w'.heap[s_.1]? = some (.cells #[.int .i64 0, .int .u64 0] 24 (0, 0))) ∧ (w'.heap[s_.2]? = some (.cells #[.int .i64 0, .int .u64 0] 24 (0, 0))) ∧ (w.heap.size ≤ s_.1) ∧ (w.heap.size ≤ s_.1) ∧ (gb309 ≠ s_.1) ∧ (s_.1 ≠ gb309) ∧ (s_.2 ≠ s_.1) ∧ (s_.1 ≠ s_.2) ∧ (w.heap.size ≤ s_.2) ∧ (w.heap.size ≤ s_.2) ∧ (gb309 ≠ s_.2) ∧ (s_.2 ≠ gb309) ∧ (Below w.heap.size w w')) ?_ ?_
         rotate_left
         · intro hJ2_8_9
           refine join_ (σ := Unit) 5 #[true, true, true, true, true, true, true, true, false, false, false, false, false] (fun s_ => [(25, .agg #[.int .i64 t310, .int .u64 t311]), (26, .tuple #[.agg #[.int .i64 t312, .int .u64 t313], .agg #[.int .i64 t314, .int .u64 t315], .int .i64 t316]), (22, .tuple #[.agg #[.int .i64 t312, .int .u64 t313], .agg #[.int .i64 t314, .int .u64 t315], .int .i64 t316]), (27, .agg #[.int .i64 t312, .int .u64 t313]), (28, .agg #[.int .i64 t314, .int .u64 t315]), (29, .int .i64 t316)]) (fun s_ w' => (w'.cell? ⟨gb309, 0, none⟩ = some (.int .i64 t306) ∧ w'.cell? ⟨gb309, 1, none⟩ = some (.int .u64 t307)) ∧ (w'.heap[gb309]? = some (.cells #[.int .i64 t306, .int .u64 t307] 24 (0, 0))) ∧ (Below w.heap.size w w')) ?_ ?_
           rotate_left
           · intro hJ2_3
             refine join_ (σ := Nat) 9 #[true, true, true, false, false, false, false, false, true, false, false, false, false] (fun s_ => [(25, .agg #[.int .i64 t310, .int .u64 t311]), (10, .pointer (some ⟨s_, 0, none⟩))]) (fun s_ w' => (w'.cell? ⟨gb309, 0, none⟩ = some (.int .i64 t306) ∧ w'.cell? ⟨gb309, 1, none⟩ = some (.int .u64 t307)) ∧ (w'.heap[gb309]? = some (.cells #[.int .i64 t306, .int .u64 t307] 24 (0, 0))) ∧ (w'.heap[s_]? = some (.cells #[.int .i64 0, .int .u64 0] 24 (0, 0))) ∧ (w.heap.size ≤ s_) ∧ (w.heap.size ≤ s_) ∧ (gb309 ≠ s_) ∧ (s_ ≠ gb309) ∧ (Below w.heap.size w w')) ?_ ?_
             rotate_left
             · intro hJ2_8
               refine join_ (σ := Nat) 9 #[true, true, true, false, false, false, false, false, false, true, false, false, false] (fun s_ => [(25, .agg #[.int .i64 t310, .int .u64 t311]), (11, .pointer (some ⟨s_, 0, none⟩))]) (fun s_ w' => (w'.cell? ⟨gb309, 0, none⟩ = some (.int .i64 t306) ∧ w'.cell? ⟨gb309, 1, none⟩ = some (.int .u64 t307)) ∧ (w'.heap[gb309]? = some (.cells #[.int .i64 t306, .int .u64 t307] 24 (0, 0))) ∧ (w'.heap[s_]? = some (.cells #[.int .i64 0, .int .u64 0] 24 (0, 0))) ∧ (w.heap.size ≤ s_) ∧ (w.heap.size ≤ s_) ∧ (gb309 ≠ s_) ∧ (s_ ≠ gb309) ∧ (Below w.heap.size w w')) ?_ ?_
               rotate_left
               · intro hJ2_9
                 refine join_ (σ := Nat × Nat) 9 #[true, true, false, false, false, false, false, false, true, true, false, false, false] (fun s_ => [(10, .pointer (some ⟨s_.1, 0, none⟩)), (11, .pointer (some ⟨s_.2, 0, none⟩))]) (fun s_ w' => (w'.cell? ⟨gb309, 0, none⟩ = some (.int .i64 t306) ∧ w'.cell? ⟨gb309, 1, none⟩ = some (.int .u64 t307)) ∧ (w'.heap[gb309]? = some (.cells #[.int .i64 t306, .int .u64 t307] 24 (0, 0))) ∧ (w'.heap[s_.1]? = some (.cells #[.int .i64 0, .int .u64 0] 24 (0, 0))) ∧ (w'.heap[s_.2]? = some (.cells #[.int .i64 0, .int .u64 0] 24 (0, 0))) ∧ (w.heap.size ≤ s_.1) ∧ (w.heap.size ≤ s_.1) ∧ (gb309 ≠ s_.1) ∧ (s_.1 ≠ gb309) ∧ (s_.2 ≠ s_.1) ∧ (s_.1 ≠ s_.2) ∧ (w.heap.size ≤ s_.2) ∧ (w.heap.size ≤ s_.2) ∧ (gb309 ≠ s_.2) ∧ (s_.2 ≠ gb309) ∧ (Below w.heap.size w w')) ?_ ?_
                 rotate_left
                 · intro hJ8_9
                   refine join_ (σ := Unit) 10 #[true, true, true, false, false, false, false, false, false, false, false, false, false] (fun s_ => [(25, .agg #[.int .i64 t310, .int .u64 t311])]) (fun s_ w' => (w'.cell? ⟨gb309, 0, none⟩ = some (.int .i64 t306) ∧ w'.cell? ⟨gb309, 1, none⟩ = some (.int .u64 t307)) ∧ (w'.heap[gb309]? = some (.cells #[.int .i64 t306, .int .u64 t307] 24 (0, 0))) ∧ (Below w.heap.size w w')) ?_ ?_
                   rotate_left
                   · intro hJ2
                     refine join_ (σ := Nat) 10 #[true, true, false, false, false, false, false, false, true, false, false, false, false] (fun s_ => [(10, .pointer (some ⟨s_, 0, none⟩))]) (fun s_ w' => (w'.cell? ⟨gb309, 0, none⟩ = some (.int .i64 t306) ∧ w'.cell? ⟨gb309, 1, none⟩ = some (.int .u64 t307)) ∧ (w'.heap[gb309]? = some (.cells #[.int .i64 t306, .int .u64 t307] 24 (0, 0))) ∧ (w'.heap[s_]? = some (.cells #[.int .i64 0, .int .u64 0] 24 (0, 0))) ∧ (w.heap.size ≤ s_) ∧ (w.heap.size ≤ s_) ∧ (gb309 ≠ s_) ∧ (s_ ≠ gb309) ∧ (Below w.heap.size w w')) ?_ ?_
                     rotate_left
                     · intro hJ8
                       refine join_ (σ := Nat) 10 #[true, true, false, false, false, false, false, false, false, true, false, false, false] (fun s_ => [(11, .pointer (some ⟨s_, 0, none⟩))]) (fun s_ w' => (w'.cell? ⟨gb309, 0, none⟩ = some (.int .i64 t306) ∧ w'.cell? ⟨gb309, 1, none⟩ = some (.int .u64 t307)) ∧ (w'.heap[gb309]? = some (.cells #[.int .i64 t306, .int .u64 t307] 24 (0, 0))) ∧ (w'.heap[s_]? = some (.cells #[.int .i64 0, .int .u64 0] 24 (0, 0))) ∧ (w.heap.size ≤ s_) ∧ (w.heap.size ≤ s_) ∧ (gb309 ≠ s_) ∧ (s_ ≠ gb309) ∧ (Below w.heap.size w w')) ?_ ?_
                       rotate_left
                       · intro hJ9
                         refine three_ (i := 2) (j := 8) (k := 9) (Ni := some 25) (Nj := some 10) (Nk := some 11) #[true, true, true, false, false, false, false, false, false, false, false, false, false] #[true, true, false, false, false, false, false, false, true, false, false, false, false] #[true, true, false, false, false, false, false, false, false, true, false, false, false] rfl rfl rfl rfl rfl rfl (three_of HT_.out (by kernel_rfl)) (by decide) (by decide) (by decide) (fun K hK => ?_) (fun K hK => ?_) (fun K hK => ?_)
                         · skip
                           refine goes_ Try.func32 (by kernel_rfl) rfl #[.int .i64 a2] (by rfl) rfl rfl (by (try simp only [List.map_toArray, List.map_cons, List.map_nil]); first | done | rfl | (simp only [List.length_drop, List.length_take]; rfl)) ?_
                           with_reducible refine (wide_Of.calls a2 t310 t311 _ A8.out).mono ?_
                           rintro e w18 ⟨rfl, hb⟩; refine ⟨_, rfl, ?_⟩; have n0_ := am (bb BK309 hb); have n1_ := am (below_step bz hb); clear BK309 HB; have BK309 := n0_; have HB := n1_; clear n0_ n1_; (try clear hb); (try clear hb2); (try clear hk); (try clear hi)
                           refine hK.out _ _ ⟨(blk_cell BK309.out 0).trans rfl, (blk_cell BK309.out 1).trans rfl⟩ (fun hHeld => ?_)
                           clear hK K
                           refine norm_ (a' := ?_) ?_ ?_
                           rotate_left
                           · show Act.put _ (some 25) _ = _
                             simp only [Act.put, List.setIfInBounds_toArray, List.set_cons_zero, List.set_cons_succ, i64_w, i32_w]
                             rfl
                           exact norm_ (by first | (simp only [putAll, Act.put, List.setIfInBounds_toArray, List.set_cons_zero, List.set_cons_succ]; done) | (simp only [putAll, Act.put, List.setIfInBounds_toArray, List.set_cons_zero, List.set_cons_succ]; rfl)) (hJ2 () _ ⟨hHeld, (bq BK309), bz⟩)
                         · skip
                           refine box_step ?hg (N := 10) ?hd (cs := #[.int .i64 0, .int .u64 0]) (t := 24) ?hr ?_; (case hd => rfl); (case hg => rfl); (case hr => first | (go_simp; done) | (go_simp; rfl))
                           intro gb317 hg w18 hbox hb; have n0_ := am (bb BK309 hb); have n1_ := am (below_step bz hb); have n2_ := am (hbox); have n3_ := am ((by rw [hg]; exact (below_size bz) : w.heap.size ≤ gb317)); have n4_ := am ((by rw [hg]; exact (below_size bz) : w.heap.size ≤ gb317)); have n5_ := am ((by rw [hg]; exact Nat.ne_of_lt (blk_lt (g := gb309) (o := .cells #[.int .i64 t306, .int .u64 t307] 24 (0, 0)) (bq BK309)) : gb309 ≠ gb317)); have n6_ := am ((by rw [hg]; exact Nat.ne_of_gt (blk_lt (g := gb309) (o := .cells #[.int .i64 t306, .int .u64 t307] 24 (0, 0)) (bq BK309)) : gb317 ≠ gb309)); clear BK309 HB; have BK309 := n0_; have HB := n1_; have BK317 := n2_; have GW317 := n3_; have GE317 := n4_; have NB309_317 := n5_; have NB317_309 := n6_; clear n0_ n1_ n2_ n3_ n4_ n5_ n6_ hb hbox hg
                           refine hK.out _ _ ⟨(blk_cell BK309.out 0).trans rfl, (blk_cell BK309.out 1).trans rfl⟩ (fun hHeld => ?_)
                           clear hK K
                           refine norm_ (a' := ?_) ?_ ?_
                           rotate_left
                           · show Act.put _ (some 10) _ = _
                             simp only [Act.put, List.setIfInBounds_toArray, List.set_cons_zero, List.set_cons_succ, i64_w, i32_w]
                             rfl
                           exact norm_ (by first | (simp only [putAll, Act.put, List.setIfInBounds_toArray, List.set_cons_zero, List.set_cons_succ]; done) | (simp only [putAll, Act.put, List.setIfInBounds_toArray, List.set_cons_zero, List.set_cons_succ]; rfl)) (hJ8 (gb317) _ ⟨hHeld, (bq BK309), (bq BK317), GW317.out, GE317.out, NB309_317.out, NB317_309.out, bz⟩)
                         · skip
                           refine box_step ?hg (N := 11) ?hd (cs := #[.int .i64 0, .int .u64 0]) (t := 24) ?hr ?_; (case hd => rfl); (case hg => rfl); (case hr => first | (go_simp; done) | (go_simp; rfl))
                           intro gb318 hg w18 hbox hb; have n0_ := am (bb BK309 hb); have n1_ := am (below_step bz hb); have n2_ := am (hbox); have n3_ := am ((by rw [hg]; exact (below_size bz) : w.heap.size ≤ gb318)); have n4_ := am ((by rw [hg]; exact (below_size bz) : w.heap.size ≤ gb318)); have n5_ := am ((by rw [hg]; exact Nat.ne_of_lt (blk_lt (g := gb309) (o := .cells #[.int .i64 t306, .int .u64 t307] 24 (0, 0)) (bq BK309)) : gb309 ≠ gb318)); have n6_ := am ((by rw [hg]; exact Nat.ne_of_gt (blk_lt (g := gb309) (o := .cells #[.int .i64 t306, .int .u64 t307] 24 (0, 0)) (bq BK309)) : gb318 ≠ gb309)); clear BK309 HB; have BK309 := n0_; have HB := n1_; have BK318 := n2_; have GW318 := n3_; have GE318 := n4_; have NB309_318 := n5_; have NB318_309 := n6_; clear n0_ n1_ n2_ n3_ n4_ n5_ n6_ hb hbox hg
                           refine hK.out _ _ ⟨(blk_cell BK309.out 0).trans rfl, (blk_cell BK309.out 1).trans rfl⟩ (fun hHeld => ?_)
                           clear hK K
                           refine norm_ (a' := ?_) ?_ ?_
                           rotate_left
                           · show Act.put _ (some 11) _ = _
                             simp only [Act.put, List.setIfInBounds_toArray, List.set_cons_zero, List.set_cons_succ, i64_w, i32_w]
                             rfl
                           exact norm_ (by first | (simp only [putAll, Act.put, List.setIfInBounds_toArray, List.set_cons_zero, List.set_cons_succ]; done) | (simp only [putAll, Act.put, List.setIfInBounds_toArray, List.set_cons_zero, List.set_cons_succ]; rfl)) (hJ9 (gb318) _ ⟨hHeld, (bq BK309), (bq BK318), GW318.out, GE318.out, NB309_318.out, NB318_309.out, bz⟩)
                       · skip
                         rintro gb318 w19 ⟨hS_, h0_, h1_, h2_, h3_, h4_, h5_, h6_⟩; have n0_ : Aside0 (w19.heap[gb309]? = some (.cells #[.int .i64 t306, .int .u64 t307] 24 (0, 0))) := ⟨h0_⟩; have n1_ : Aside0 (w19.heap[gb318]? = some (.cells #[.int .i64 0, .int .u64 0] 24 (0, 0))) := ⟨h1_⟩; have n2_ : Aside0 (w.heap.size ≤ gb318) := ⟨h2_⟩; have n3_ : Aside0 (w.heap.size ≤ gb318) := ⟨h3_⟩; have n4_ : Aside0 (gb309 ≠ gb318) := ⟨h4_⟩; have n5_ : Aside0 (gb318 ≠ gb309) := ⟨h5_⟩; have n6_ : Aside0 (Below w.heap.size w w19) := ⟨h6_⟩; clear BK309 HB h0_ h1_ h2_ h3_ h4_ h5_ h6_; have BK309 := n0_; have BK318 := n1_; have GW318 := n2_; have GE318 := n3_; have NB309_318 := n4_; have NB318_309 := n5_; have HB := n6_; clear n0_ n1_ n2_ n3_ n4_ n5_ n6_; have hHeld : w19.cell? ⟨gb309, 0, none⟩ = some (.int .i64 t306) ∧ w19.cell? ⟨gb309, 1, none⟩ = some (.int .u64 t307) := hS_
                         refine norm_ (a' := ?_) ?_ ?_
                         rotate_left
                         · simp only [putAll, Act.put, List.setIfInBounds_toArray, List.set_cons_zero, List.set_cons_succ]
                           rfl
                         refine two_ (i := 2) (j := 8) (Ni := some 25) (Nj := some 10) #[true, true, true, false, false, false, false, false, false, true, false, false, false] #[true, true, false, false, false, false, false, false, true, true, false, false, false] rfl rfl rfl rfl (two_of HT_.out (by kernel_rfl)) (by decide) (by decide) (fun K hK => ?_) (fun K hK => ?_)
                         · skip
                           refine goes_ Try.func32 (by kernel_rfl) rfl #[.int .i64 a2] (by rfl) rfl rfl (by (try simp only [List.map_toArray, List.map_cons, List.map_nil]); first | done | rfl | (simp only [List.length_drop, List.length_take]; rfl)) ?_
                           with_reducible refine (wide_Of.calls a2 t310 t311 _ A8.out).mono ?_
                           rintro e w20 ⟨rfl, hb⟩; refine ⟨_, rfl, ?_⟩; have n0_ := am (bb BK309 hb); have n1_ := am (bb BK318 hb); have n2_ := am (below_step bz hb); clear BK309 BK318 HB; have BK309 := n0_; have BK318 := n1_; have HB := n2_; clear n0_ n1_ n2_; (try clear hb); (try clear hb2); (try clear hk); (try clear hi)
                           refine hK.out _ _ ⟨(blk_cell BK309.out 0).trans rfl, (blk_cell BK309.out 1).trans rfl⟩ (fun hHeld => ?_)
                           clear hK K
                           refine norm_ (a' := ?_) ?_ ?_
                           rotate_left
                           · show Act.put _ (some 25) _ = _
                             simp only [Act.put, List.setIfInBounds_toArray, List.set_cons_zero, List.set_cons_succ, i64_w, i32_w]
                             rfl
                           exact norm_ (by first | (simp only [putAll, Act.put, List.setIfInBounds_toArray, List.set_cons_zero, List.set_cons_succ]; done) | (simp only [putAll, Act.put, List.setIfInBounds_toArray, List.set_cons_zero, List.set_cons_succ]; rfl)) (hJ2_9 (gb318) _ ⟨hHeld, (bq BK309), (bq BK318), GW318.out, GE318.out, NB309_318.out, NB318_309.out, bz⟩)
                         · skip
                           refine box_step ?hg (N := 10) ?hd (cs := #[.int .i64 0, .int .u64 0]) (t := 24) ?hr ?_; (case hd => rfl); (case hg => rfl); (case hr => first | (go_simp; done) | (go_simp; rfl))
                           intro gb317 hg w20 hbox hb; have n0_ := am (bb BK309 hb); have n1_ := am (bb BK318 hb); have n2_ := am (below_step bz hb); have n3_ := am (hbox); have n4_ := am ((by rw [hg]; exact (below_size bz) : w.heap.size ≤ gb317)); have n5_ := am ((by rw [hg]; exact (below_size bz) : w.heap.size ≤ gb317)); have n6_ := am ((by rw [hg]; exact Nat.ne_of_lt (blk_lt (g := gb309) (o := .cells #[.int .i64 t306, .int .u64 t307] 24 (0, 0)) (bq BK309)) : gb309 ≠ gb317)); have n7_ := am ((by rw [hg]; exact Nat.ne_of_gt (blk_lt (g := gb309) (o := .cells #[.int .i64 t306, .int .u64 t307] 24 (0, 0)) (bq BK309)) : gb317 ≠ gb309)); have n8_ := am ((by rw [hg]; exact Nat.ne_of_lt (blk_lt (g := gb318) (o := .cells #[.int .i64 0, .int .u64 0] 24 (0, 0)) (bq BK318)) : gb318 ≠ gb317)); have n9_ := am ((by rw [hg]; exact Nat.ne_of_gt (blk_lt (g := gb318) (o := .cells #[.int .i64 0, .int .u64 0] 24 (0, 0)) (bq BK318)) : gb317 ≠ gb318)); clear BK309 BK318 HB; have BK309 := n0_; have BK318 := n1_; have HB := n2_; have BK317 := n3_; have GW317 := n4_; have GE317 := n5_; have NB309_317 := n6_; have NB317_309 := n7_; have NB318_317 := n8_; have NB317_318 := n9_; clear n0_ n1_ n2_ n3_ n4_ n5_ n6_ n7_ n8_ n9_ hb hbox hg
                           refine hK.out _ _ ⟨(blk_cell BK309.out 0).trans rfl, (blk_cell BK309.out 1).trans rfl⟩ (fun hHeld => ?_)
                           clear hK K
                           refine norm_ (a' := ?_) ?_ ?_
                           rotate_left
                           · show Act.put _ (some 10) _ = _
                             simp only [Act.put, List.setIfInBounds_toArray, List.set_cons_zero, List.set_cons_succ, i64_w, i32_w]
                             rfl
                           exact norm_ (by first | (simp only [putAll, Act.put, List.setIfInBounds_toArray, List.set_cons_zero, List.set_cons_succ]; done) | (simp only [putAll, Act.put, List.setIfInBounds_toArray, List.set_cons_zero, List.set_cons_succ]; rfl)) (hJ8_9 (gb317, gb318) _ ⟨hHeld, (bq BK309), (bq BK317), (bq BK318), GW317.out, GE317.out, NB309_317.out, NB317_309.out, NB318_317.out, NB317_318.out, GW318.out, GE318.out, NB309_318.out, NB318_309.out, bz⟩)
                     · skip
                       rintro gb317 w19 ⟨hS_, h0_, h1_, h2_, h3_, h4_, h5_, h6_⟩; have n0_ : Aside0 (w19.heap[gb309]? = some (.cells #[.int .i64 t306, .int .u64 t307] 24 (0, 0))) := ⟨h0_⟩; have n1_ : Aside0 (w19.heap[gb317]? = some (.cells #[.int .i64 0, .int .u64 0] 24 (0, 0))) := ⟨h1_⟩; have n2_ : Aside0 (w.heap.size ≤ gb317) := ⟨h2_⟩; have n3_ : Aside0 (w.heap.size ≤ gb317) := ⟨h3_⟩; have n4_ : Aside0 (gb309 ≠ gb317) := ⟨h4_⟩; have n5_ : Aside0 (gb317 ≠ gb309) := ⟨h5_⟩; have n6_ : Aside0 (Below w.heap.size w w19) := ⟨h6_⟩; clear BK309 HB h0_ h1_ h2_ h3_ h4_ h5_ h6_; have BK309 := n0_; have BK317 := n1_; have GW317 := n2_; have GE317 := n3_; have NB309_317 := n4_; have NB317_309 := n5_; have HB := n6_; clear n0_ n1_ n2_ n3_ n4_ n5_ n6_; have hHeld : w19.cell? ⟨gb309, 0, none⟩ = some (.int .i64 t306) ∧ w19.cell? ⟨gb309, 1, none⟩ = some (.int .u64 t307) := hS_
                       refine norm_ (a' := ?_) ?_ ?_
                       rotate_left
                       · simp only [putAll, Act.put, List.setIfInBounds_toArray, List.set_cons_zero, List.set_cons_succ]
                         rfl
                       refine two_ (i := 2) (j := 9) (Ni := some 25) (Nj := some 11) #[true, true, true, false, false, false, false, false, true, false, false, false, false] #[true, true, false, false, false, false, false, false, true, true, false, false, false] rfl rfl rfl rfl (two_of HT_.out (by kernel_rfl)) (by decide) (by decide) (fun K hK => ?_) (fun K hK => ?_)
                       · skip
                         refine goes_ Try.func32 (by kernel_rfl) rfl #[.int .i64 a2] (by rfl) rfl rfl (by (try simp only [List.map_toArray, List.map_cons, List.map_nil]); first | done | rfl | (simp only [List.length_drop, List.length_take]; rfl)) ?_
                         with_reducible refine (wide_Of.calls a2 t310 t311 _ A8.out).mono ?_
                         rintro e w20 ⟨rfl, hb⟩; refine ⟨_, rfl, ?_⟩; have n0_ := am (bb BK309 hb); have n1_ := am (bb BK317 hb); have n2_ := am (below_step bz hb); clear BK309 BK317 HB; have BK309 := n0_; have BK317 := n1_; have HB := n2_; clear n0_ n1_ n2_; (try clear hb); (try clear hb2); (try clear hk); (try clear hi)
                         refine hK.out _ _ ⟨(blk_cell BK309.out 0).trans rfl, (blk_cell BK309.out 1).trans rfl⟩ (fun hHeld => ?_)
                         clear hK K
                         refine norm_ (a' := ?_) ?_ ?_
                         rotate_left
                         · show Act.put _ (some 25) _ = _
                           simp only [Act.put, List.setIfInBounds_toArray, List.set_cons_zero, List.set_cons_succ, i64_w, i32_w]
                           rfl
                         exact norm_ (by first | (simp only [putAll, Act.put, List.setIfInBounds_toArray, List.set_cons_zero, List.set_cons_succ]; done) | (simp only [putAll, Act.put, List.setIfInBounds_toArray, List.set_cons_zero, List.set_cons_succ]; rfl)) (hJ2_8 (gb317) _ ⟨hHeld, (bq BK309), (bq BK317), GW317.out, GE317.out, NB309_317.out, NB317_309.out, bz⟩)
                       · skip
                         refine box_step ?hg (N := 11) ?hd (cs := #[.int .i64 0, .int .u64 0]) (t := 24) ?hr ?_; (case hd => rfl); (case hg => rfl); (case hr => first | (go_simp; done) | (go_simp; rfl))
                         intro gb318 hg w20 hbox hb; have n0_ := am (bb BK309 hb); have n1_ := am (bb BK317 hb); have n2_ := am (below_step bz hb); have n3_ := am (hbox); have n4_ := am ((by rw [hg]; exact (below_size bz) : w.heap.size ≤ gb318)); have n5_ := am ((by rw [hg]; exact (below_size bz) : w.heap.size ≤ gb318)); have n6_ := am ((by rw [hg]; exact Nat.ne_of_lt (blk_lt (g := gb309) (o := .cells #[.int .i64 t306, .int .u64 t307] 24 (0, 0)) (bq BK309)) : gb309 ≠ gb318)); have n7_ := am ((by rw [hg]; exact Nat.ne_of_gt (blk_lt (g := gb309) (o := .cells #[.int .i64 t306, .int .u64 t307] 24 (0, 0)) (bq BK309)) : gb318 ≠ gb309)); have n8_ := am ((by rw [hg]; exact Nat.ne_of_lt (blk_lt (g := gb317) (o := .cells #[.int .i64 0, .int .u64 0] 24 (0, 0)) (bq BK317)) : gb317 ≠ gb318)); have n9_ := am ((by rw [hg]; exact Nat.ne_of_gt (blk_lt (g := gb317) (o := .cells #[.int .i64 0, .int .u64 0] 24 (0, 0)) (bq BK317)) : gb318 ≠ gb317)); clear BK309 BK317 HB; have BK309 := n0_; have BK317 := n1_; have HB := n2_; have BK318 := n3_; have GW318 := n4_; have GE318 := n5_; have NB309_318 := n6_; have NB318_309 := n7_; have NB317_318 := n8_; have NB318_317 := n9_; clear n0_ n1_ n2_ n3_ n4_ n5_ n6_ n7_ n8_ n9_ hb hbox hg
                         refine hK.out _ _ ⟨(blk_cell BK309.out 0).trans rfl, (blk_cell BK309.out 1).trans rfl⟩ (fun hHeld => ?_)
                         clear hK K
                         refine norm_ (a' := ?_) ?_ ?_
                         rotate_left
                         · show Act.put _ (some 11) _ = _
                           simp only [Act.put, List.setIfInBounds_toArray, List.set_cons_zero, List.set_cons_succ, i64_w, i32_w]
                           rfl
                         exact norm_ (by first | (simp only [putAll, Act.put, List.setIfInBounds_toArray, List.set_cons_zero, List.set_cons_succ]; done) | (simp only [putAll, Act.put, List.setIfInBounds_toArray, List.set_cons_zero, List.set_cons_succ]; rfl)) (hJ8_9 (gb317, gb318) _ ⟨hHeld, (bq BK309), (bq BK317), (bq BK318), GW317.out, GE317.out, NB309_317.out, NB317_309.out, NB318_317.out, NB317_318.out, GW318.out, GE318.out, NB309_318.out, NB318_309.out, bz⟩)
                   · skip
                     rintro _ w19 ⟨hS_, h0_, h1_⟩; have n0_ : Aside0 (w19.heap[gb309]? = some (.cells #[.int .i64 t306, .int .u64 t307] 24 (0, 0))) := ⟨h0_⟩; have n1_ : Aside0 (Below w.heap.size w w19) := ⟨h1_⟩; clear BK309 HB h0_ h1_; have BK309 := n0_; have HB := n1_; clear n0_ n1_; have hHeld : w19.cell? ⟨gb309, 0, none⟩ = some (.int .i64 t306) ∧ w19.cell? ⟨gb309, 1, none⟩ = some (.int .u64 t307) := hS_
                     refine norm_ (a' := ?_) ?_ ?_
                     rotate_left
                     · simp only [putAll, Act.put, List.setIfInBounds_toArray, List.set_cons_zero, List.set_cons_succ]
                       rfl
                     refine three_ (i := 3) (j := 8) (k := 9) (Ni := some 26) (Nj := some 10) (Nk := some 11) #[true, true, true, true, false, false, false, false, false, false, false, false, false] #[true, true, true, false, false, false, false, false, true, false, false, false, false] #[true, true, true, false, false, false, false, false, false, true, false, false, false] rfl rfl rfl rfl rfl rfl (three_of HT_.out (by kernel_rfl)) (by decide) (by decide) (by decide) (fun K hK => ?_) (fun K hK => ?_) (fun K hK => ?_)
                     · skip
                       refine goes_ Try.func31 (by kernel_rfl) rfl #[.agg #[.int .i64 t306, .int .u64 t307], .agg #[.int .i64 t310, .int .u64 t311]] (by rfl) rfl rfl (by (try simp only [List.map_toArray, List.map_cons, List.map_nil]); first | done | rfl | (simp only [List.length_drop, List.length_take]; rfl)) ?_
                       with_reducible refine (wide_Quo.calls k t306 t307 t310 t311 t312 t313 t314 t315 t316 _ A9.out).mono ?_
                       rintro e w20 ⟨rfl, hb⟩; refine ⟨_, rfl, ?_⟩; have n0_ := am (bb BK309 hb); have n1_ := am (below_step bz hb); clear BK309 HB; have BK309 := n0_; have HB := n1_; clear n0_ n1_; (try clear hb); (try clear hb2); (try clear hk); (try clear hi)
                       refine hK.out _ _ ⟨(blk_cell BK309.out 0).trans rfl, (blk_cell BK309.out 1).trans rfl⟩ (fun hHeld => ?_)
                       clear hK K
                       refine norm_ (a' := ?_) ?_ ?_
                       rotate_left
                       · show Act.put _ (some 26) _ = _
                         simp only [Act.put, List.setIfInBounds_toArray, List.set_cons_zero, List.set_cons_succ, i64_w, i32_w]
                         rfl
                       refine pure_ (i := 4) (N := some 22) (v := ?_) (a' := ?_) #[true, true, true, true, true, false, false, false, false, false, false, false, false] rfl rfl (any_of HT_.out (by kernel_rfl)) (fun _ _ _ h => h) (Or.inl ⟨by rfl, ?_⟩) ?_ ?_
                       rotate_left
                       · intro w'
                         go_simp
                         with_reducible rfl
                       rotate_left
                       · simp only [Act.put, List.setIfInBounds_toArray, List.set_cons_zero, List.set_cons_succ, i64_w, i32_w]
                         rfl
                       refine pure_ (i := 5) (N := some 27) (v := ?_) (a' := ?_) #[true, true, true, true, true, true, false, false, false, false, false, false, false] rfl rfl (any_of HT_.out (by kernel_rfl)) (fun _ _ _ h => h) (Or.inl ⟨by rfl, ?_⟩) ?_ ?_
                       rotate_left
                       · intro w'
                         go_simp
                         with_reducible rfl
                       rotate_left
                       · simp only [Act.put, List.setIfInBounds_toArray, List.set_cons_zero, List.set_cons_succ, i64_w, i32_w]
                         rfl
                       refine pure_ (i := 6) (N := some 28) (v := ?_) (a' := ?_) #[true, true, true, true, true, true, true, false, false, false, false, false, false] rfl rfl (any_of HT_.out (by kernel_rfl)) (fun _ _ _ h => h) (Or.inl ⟨by rfl, ?_⟩) ?_ ?_
                       rotate_left
                       · intro w'
                         go_simp
                         with_reducible rfl
                       rotate_left
                       · simp only [Act.put, List.setIfInBounds_toArray, List.set_cons_zero, List.set_cons_succ, i64_w, i32_w]
                         rfl
                       refine pure_ (i := 7) (N := some 29) (v := ?_) (a' := ?_) #[true, true, true, true, true, true, true, true, false, false, false, false, false] rfl rfl (any_of HT_.out (by kernel_rfl)) (fun _ _ _ h => h) (Or.inl ⟨by rfl, ?_⟩) ?_ ?_
                       rotate_left
                       · intro w'
                         go_simp
                         with_reducible rfl
                       rotate_left
                       · simp only [Act.put, List.setIfInBounds_toArray, List.set_cons_zero, List.set_cons_succ, i64_w, i32_w]
                         rfl
                       exact norm_ (by first | (simp only [putAll, Act.put, List.setIfInBounds_toArray, List.set_cons_zero, List.set_cons_succ]; done) | (simp only [putAll, Act.put, List.setIfInBounds_toArray, List.set_cons_zero, List.set_cons_succ]; rfl)) (hJ2_3 () _ ⟨hHeld, (bq BK309), bz⟩)
                     · skip
                       refine box_step ?hg (N := 10) ?hd (cs := #[.int .i64 0, .int .u64 0]) (t := 24) ?hr ?_; (case hd => rfl); (case hg => rfl); (case hr => first | (go_simp; done) | (go_simp; rfl))
                       intro gb317 hg w20 hbox hb; have n0_ := am (bb BK309 hb); have n1_ := am (below_step bz hb); have n2_ := am (hbox); have n3_ := am ((by rw [hg]; exact (below_size bz) : w.heap.size ≤ gb317)); have n4_ := am ((by rw [hg]; exact (below_size bz) : w.heap.size ≤ gb317)); have n5_ := am ((by rw [hg]; exact Nat.ne_of_lt (blk_lt (g := gb309) (o := .cells #[.int .i64 t306, .int .u64 t307] 24 (0, 0)) (bq BK309)) : gb309 ≠ gb317)); have n6_ := am ((by rw [hg]; exact Nat.ne_of_gt (blk_lt (g := gb309) (o := .cells #[.int .i64 t306, .int .u64 t307] 24 (0, 0)) (bq BK309)) : gb317 ≠ gb309)); clear BK309 HB; have BK309 := n0_; have HB := n1_; have BK317 := n2_; have GW317 := n3_; have GE317 := n4_; have NB309_317 := n5_; have NB317_309 := n6_; clear n0_ n1_ n2_ n3_ n4_ n5_ n6_ hb hbox hg
                       refine hK.out _ _ ⟨(blk_cell BK309.out 0).trans rfl, (blk_cell BK309.out 1).trans rfl⟩ (fun hHeld => ?_)
                       clear hK K
                       refine norm_ (a' := ?_) ?_ ?_
                       rotate_left
                       · show Act.put _ (some 10) _ = _
                         simp only [Act.put, List.setIfInBounds_toArray, List.set_cons_zero, List.set_cons_succ, i64_w, i32_w]
                         rfl
                       exact norm_ (by first | (simp only [putAll, Act.put, List.setIfInBounds_toArray, List.set_cons_zero, List.set_cons_succ]; done) | (simp only [putAll, Act.put, List.setIfInBounds_toArray, List.set_cons_zero, List.set_cons_succ]; rfl)) (hJ2_8 (gb317) _ ⟨hHeld, (bq BK309), (bq BK317), GW317.out, GE317.out, NB309_317.out, NB317_309.out, bz⟩)
                     · skip
                       refine box_step ?hg (N := 11) ?hd (cs := #[.int .i64 0, .int .u64 0]) (t := 24) ?hr ?_; (case hd => rfl); (case hg => rfl); (case hr => first | (go_simp; done) | (go_simp; rfl))
                       intro gb318 hg w20 hbox hb; have n0_ := am (bb BK309 hb); have n1_ := am (below_step bz hb); have n2_ := am (hbox); have n3_ := am ((by rw [hg]; exact (below_size bz) : w.heap.size ≤ gb318)); have n4_ := am ((by rw [hg]; exact (below_size bz) : w.heap.size ≤ gb318)); have n5_ := am ((by rw [hg]; exact Nat.ne_of_lt (blk_lt (g := gb309) (o := .cells #[.int .i64 t306, .int .u64 t307] 24 (0, 0)) (bq BK309)) : gb309 ≠ gb318)); have n6_ := am ((by rw [hg]; exact Nat.ne_of_gt (blk_lt (g := gb309) (o := .cells #[.int .i64 t306, .int .u64 t307] 24 (0, 0)) (bq BK309)) : gb318 ≠ gb309)); clear BK309 HB; have BK309 := n0_; have HB := n1_; have BK318 := n2_; have GW318 := n3_; have GE318 := n4_; have NB309_318 := n5_; have NB318_309 := n6_; clear n0_ n1_ n2_ n3_ n4_ n5_ n6_ hb hbox hg
                       refine hK.out _ _ ⟨(blk_cell BK309.out 0).trans rfl, (blk_cell BK309.out 1).trans rfl⟩ (fun hHeld => ?_)
                       clear hK K
                       refine norm_ (a' := ?_) ?_ ?_
                       rotate_left
                       · show Act.put _ (some 11) _ = _
                         simp only [Act.put, List.setIfInBounds_toArray, List.set_cons_zero, List.set_cons_succ, i64_w, i32_w]
                         rfl
                       exact norm_ (by first | (simp only [putAll, Act.put, List.setIfInBounds_toArray, List.set_cons_zero, List.set_cons_succ]; done) | (simp only [putAll, Act.put, List.setIfInBounds_toArray, List.set_cons_zero, List.set_cons_succ]; rfl)) (hJ2_9 (gb318) _ ⟨hHeld, (bq BK309), (bq BK318), GW318.out, GE318.out, NB309_318.out, NB318_309.out, bz⟩)
                 · skip
                   rintro ⟨gb317, gb318⟩ w20 ⟨hS_, h0_, h1_, h2_, h3_, h4_, h5_, h6_, h7_, h8_, h9_, h10_, h11_, h12_, h13_⟩; have n0_ : Aside0 (w20.heap[gb309]? = some (.cells #[.int .i64 t306, .int .u64 t307] 24 (0, 0))) := ⟨h0_⟩; have n1_ : Aside0 (w20.heap[gb317]? = some (.cells #[.int .i64 0, .int .u64 0] 24 (0, 0))) := ⟨h1_⟩; have n2_ : Aside0 (w20.heap[gb318]? = some (.cells #[.int .i64 0, .int .u64 0] 24 (0, 0))) := ⟨h2_⟩; have n3_ : Aside0 (w.heap.size ≤ gb317) := ⟨h3_⟩; have n4_ : Aside0 (w.heap.size ≤ gb317) := ⟨h4_⟩; have n5_ : Aside0 (gb309 ≠ gb317) := ⟨h5_⟩; have n6_ : Aside0 (gb317 ≠ gb309) := ⟨h6_⟩; have n7_ : Aside0 (gb318 ≠ gb317) := ⟨h7_⟩; have n8_ : Aside0 (gb317 ≠ gb318) := ⟨h8_⟩; have n9_ : Aside0 (w.heap.size ≤ gb318) := ⟨h9_⟩; have n10_ : Aside0 (w.heap.size ≤ gb318) := ⟨h10_⟩; have n11_ : Aside0 (gb309 ≠ gb318) := ⟨h11_⟩; have n12_ : Aside0 (gb318 ≠ gb309) := ⟨h12_⟩; have n13_ : Aside0 (Below w.heap.size w w20) := ⟨h13_⟩; clear BK309 HB h0_ h1_ h2_ h3_ h4_ h5_ h6_ h7_ h8_ h9_ h10_ h11_ h12_ h13_; have BK309 := n0_; have BK317 := n1_; have BK318 := n2_; have GW317 := n3_; have GE317 := n4_; have NB309_317 := n5_; have NB317_309 := n6_; have NB318_317 := n7_; have NB317_318 := n8_; have GW318 := n9_; have GE318 := n10_; have NB309_318 := n11_; have NB318_309 := n12_; have HB := n13_; clear n0_ n1_ n2_ n3_ n4_ n5_ n6_ n7_ n8_ n9_ n10_ n11_ n12_ n13_; have hHeld : w20.cell? ⟨gb309, 0, none⟩ = some (.int .i64 t306) ∧ w20.cell? ⟨gb309, 1, none⟩ = some (.int .u64 t307) := hS_
                   refine norm_ (a' := ?_) ?_ ?_
                   rotate_left
                   · simp only [putAll, Act.put, List.setIfInBounds_toArray, List.set_cons_zero, List.set_cons_succ]
                     rfl
                   refine one_ (i := 2) (N := some 25) #[true, true, true, false, false, false, false, false, true, true, false, false, false] rfl rfl (one_of HT_.out (by kernel_rfl)) (by decide) (fun K hK => ?_)
                   refine goes_ Try.func32 (by kernel_rfl) rfl #[.int .i64 a2] (by rfl) rfl rfl (by (try simp only [List.map_toArray, List.map_cons, List.map_nil]); first | done | rfl | (simp only [List.length_drop, List.length_take]; rfl)) ?_
                   with_reducible refine (wide_Of.calls a2 t310 t311 _ A8.out).mono ?_
                   rintro e w21 ⟨rfl, hb⟩; refine ⟨_, rfl, ?_⟩; have n0_ := am (bb BK309 hb); have n1_ := am (bb BK317 hb); have n2_ := am (bb BK318 hb); have n3_ := am (below_step bz hb); clear BK309 BK317 BK318 HB; have BK309 := n0_; have BK317 := n1_; have BK318 := n2_; have HB := n3_; clear n0_ n1_ n2_ n3_; (try clear hb); (try clear hb2); (try clear hk); (try clear hi)
                   refine hK.out _ _ ⟨(blk_cell BK309.out 0).trans rfl, (blk_cell BK309.out 1).trans rfl⟩ (fun hHeld => ?_)
                   clear hK K
                   refine norm_ (a' := ?_) ?_ ?_
                   rotate_left
                   · show Act.put _ (some 25) _ = _
                     simp only [Act.put, List.setIfInBounds_toArray, List.set_cons_zero, List.set_cons_succ, i64_w, i32_w]
                     rfl
                   exact norm_ (by first | (simp only [putAll, Act.put, List.setIfInBounds_toArray, List.set_cons_zero, List.set_cons_succ]; done) | (simp only [putAll, Act.put, List.setIfInBounds_toArray, List.set_cons_zero, List.set_cons_succ]; rfl)) (hJ2_8_9 (gb317, gb318) _ ⟨hHeld, (bq BK309), (bq BK317), (bq BK318), GW317.out, GE317.out, NB309_317.out, NB317_309.out, NB318_317.out, NB317_318.out, GW318.out, GE318.out, NB309_318.out, NB318_309.out, bz⟩)
               · skip
                 rintro gb318 w20 ⟨hS_, h0_, h1_, h2_, h3_, h4_, h5_, h6_⟩; have n0_ : Aside0 (w20.heap[gb309]? = some (.cells #[.int .i64 t306, .int .u64 t307] 24 (0, 0))) := ⟨h0_⟩; have n1_ : Aside0 (w20.heap[gb318]? = some (.cells #[.int .i64 0, .int .u64 0] 24 (0, 0))) := ⟨h1_⟩; have n2_ : Aside0 (w.heap.size ≤ gb318) := ⟨h2_⟩; have n3_ : Aside0 (w.heap.size ≤ gb318) := ⟨h3_⟩; have n4_ : Aside0 (gb309 ≠ gb318) := ⟨h4_⟩; have n5_ : Aside0 (gb318 ≠ gb309) := ⟨h5_⟩; have n6_ : Aside0 (Below w.heap.size w w20) := ⟨h6_⟩; clear BK309 HB h0_ h1_ h2_ h3_ h4_ h5_ h6_; have BK309 := n0_; have BK318 := n1_; have GW318 := n2_; have GE318 := n3_; have NB309_318 := n4_; have NB318_309 := n5_; have HB := n6_; clear n0_ n1_ n2_ n3_ n4_ n5_ n6_; have hHeld : w20.cell? ⟨gb309, 0, none⟩ = some (.int .i64 t306) ∧ w20.cell? ⟨gb309, 1, none⟩ = some (.int .u64 t307) := hS_
                 refine norm_ (a' := ?_) ?_ ?_
                 rotate_left
                 · simp only [putAll, Act.put, List.setIfInBounds_toArray, List.set_cons_zero, List.set_cons_succ]
                   rfl
                 refine two_ (i := 3) (j := 8) (Ni := some 26) (Nj := some 10) #[true, true, true, true, false, false, false, false, false, true, false, false, false] #[true, true, true, false, false, false, false, false, true, true, false, false, false] rfl rfl rfl rfl (two_of HT_.out (by kernel_rfl)) (by decide) (by decide) (fun K hK => ?_) (fun K hK => ?_)
                 · skip
                   refine goes_ Try.func31 (by kernel_rfl) rfl #[.agg #[.int .i64 t306, .int .u64 t307], .agg #[.int .i64 t310, .int .u64 t311]] (by rfl) rfl rfl (by (try simp only [List.map_toArray, List.map_cons, List.map_nil]); first | done | rfl | (simp only [List.length_drop, List.length_take]; rfl)) ?_
                   with_reducible refine (wide_Quo.calls k t306 t307 t310 t311 t312 t313 t314 t315 t316 _ A9.out).mono ?_
                   rintro e w21 ⟨rfl, hb⟩; refine ⟨_, rfl, ?_⟩; have n0_ := am (bb BK309 hb); have n1_ := am (bb BK318 hb); have n2_ := am (below_step bz hb); clear BK309 BK318 HB; have BK309 := n0_; have BK318 := n1_; have HB := n2_; clear n0_ n1_ n2_; (try clear hb); (try clear hb2); (try clear hk); (try clear hi)
                   refine hK.out _ _ ⟨(blk_cell BK309.out 0).trans rfl, (blk_cell BK309.out 1).trans rfl⟩ (fun hHeld => ?_)
                   clear hK K
                   refine norm_ (a' := ?_) ?_ ?_
                   rotate_left
                   · show Act.put _ (some 26) _ = _
                     simp only [Act.put, List.setIfInBounds_toArray, List.set_cons_zero, List.set_cons_succ, i64_w, i32_w]
                     rfl
                   refine pure_ (i := 4) (N := some 22) (v := ?_) (a' := ?_) #[true, true, true, true, true, false, false, false, false, true, false, false, false] rfl rfl (any_of HT_.out (by kernel_rfl)) (fun _ _ _ h => h) (Or.inl ⟨by rfl, ?_⟩) ?_ ?_
                   rotate_left
                   · intro w'
                     go_simp
                     with_reducible rfl
                   rotate_left
                   · simp only [Act.put, List.setIfInBounds_toArray, List.set_cons_zero, List.set_cons_succ, i64_w, i32_w]
                     rfl
                   refine pure_ (i := 5) (N := some 27) (v := ?_) (a' := ?_) #[true, true, true, true, true, true, false, false, false, true, false, false, false] rfl rfl (any_of HT_.out (by kernel_rfl)) (fun _ _ _ h => h) (Or.inl ⟨by rfl, ?_⟩) ?_ ?_
                   rotate_left
                   · intro w'
                     go_simp
                     with_reducible rfl
                   rotate_left
                   · simp only [Act.put, List.setIfInBounds_toArray, List.set_cons_zero, List.set_cons_succ, i64_w, i32_w]
                     rfl
                   refine pure_ (i := 6) (N := some 28) (v := ?_) (a' := ?_) #[true, true, true, true, true, true, true, false, false, true, false, false, false] rfl rfl (any_of HT_.out (by kernel_rfl)) (fun _ _ _ h => h) (Or.inl ⟨by rfl, ?_⟩) ?_ ?_
                   rotate_left
                   · intro w'
                     go_simp
                     with_reducible rfl
                   rotate_left
                   · simp only [Act.put, List.setIfInBounds_toArray, List.set_cons_zero, List.set_cons_succ, i64_w, i32_w]
                     rfl
                   refine pure_ (i := 7) (N := some 29) (v := ?_) (a' := ?_) #[true, true, true, true, true, true, true, true, false, true, false, false, false] rfl rfl (any_of HT_.out (by kernel_rfl)) (fun _ _ _ h => h) (Or.inl ⟨by rfl, ?_⟩) ?_ ?_
                   rotate_left
                   · intro w'
                     go_simp
                     with_reducible rfl
                   rotate_left
                   · simp only [Act.put, List.setIfInBounds_toArray, List.set_cons_zero, List.set_cons_succ, i64_w, i32_w]
                     rfl
                   exact norm_ (by first | (simp only [putAll, Act.put, List.setIfInBounds_toArray, List.set_cons_zero, List.set_cons_succ]; done) | (simp only [putAll, Act.put, List.setIfInBounds_toArray, List.set_cons_zero, List.set_cons_succ]; rfl)) (hJ2_3_9 (gb318) _ ⟨hHeld, (bq BK309), (bq BK318), GW318.out, GE318.out, NB309_318.out, NB318_309.out, bz⟩)
                 · skip
                   refine box_step ?hg (N := 10) ?hd (cs := #[.int .i64 0, .int .u64 0]) (t := 24) ?hr ?_; (case hd => rfl); (case hg => rfl); (case hr => first | (go_simp; done) | (go_simp; rfl))
                   intro gb317 hg w21 hbox hb; have n0_ := am (bb BK309 hb); have n1_ := am (bb BK318 hb); have n2_ := am (below_step bz hb); have n3_ := am (hbox); have n4_ := am ((by rw [hg]; exact (below_size bz) : w.heap.size ≤ gb317)); have n5_ := am ((by rw [hg]; exact (below_size bz) : w.heap.size ≤ gb317)); have n6_ := am ((by rw [hg]; exact Nat.ne_of_lt (blk_lt (g := gb309) (o := .cells #[.int .i64 t306, .int .u64 t307] 24 (0, 0)) (bq BK309)) : gb309 ≠ gb317)); have n7_ := am ((by rw [hg]; exact Nat.ne_of_gt (blk_lt (g := gb309) (o := .cells #[.int .i64 t306, .int .u64 t307] 24 (0, 0)) (bq BK309)) : gb317 ≠ gb309)); have n8_ := am ((by rw [hg]; exact Nat.ne_of_lt (blk_lt (g := gb318) (o := .cells #[.int .i64 0, .int .u64 0] 24 (0, 0)) (bq BK318)) : gb318 ≠ gb317)); have n9_ := am ((by rw [hg]; exact Nat.ne_of_gt (blk_lt (g := gb318) (o := .cells #[.int .i64 0, .int .u64 0] 24 (0, 0)) (bq BK318)) : gb317 ≠ gb318)); clear BK309 BK318 HB; have BK309 := n0_; have BK318 := n1_; have HB := n2_; have BK317 := n3_; have GW317 := n4_; have GE317 := n5_; have NB309_317 := n6_; have NB317_309 := n7_; have NB318_317 := n8_; have NB317_318 := n9_; clear n0_ n1_ n2_ n3_ n4_ n5_ n6_ n7_ n8_ n9_ hb hbox hg
                   refine hK.out _ _ ⟨(blk_cell BK309.out 0).trans rfl, (blk_cell BK309.out 1).trans rfl⟩ (fun hHeld => ?_)
                   clear hK K
                   refine norm_ (a' := ?_) ?_ ?_
                   rotate_left
                   · show Act.put _ (some 10) _ = _
                     simp only [Act.put, List.setIfInBounds_toArray, List.set_cons_zero, List.set_cons_succ, i64_w, i32_w]
                     rfl
                   exact norm_ (by first | (simp only [putAll, Act.put, List.setIfInBounds_toArray, List.set_cons_zero, List.set_cons_succ]; done) | (simp only [putAll, Act.put, List.setIfInBounds_toArray, List.set_cons_zero, List.set_cons_succ]; rfl)) (hJ2_8_9 (gb317, gb318) _ ⟨hHeld, (bq BK309), (bq BK317), (bq BK318), GW317.out, GE317.out, NB309_317.out, NB317_309.out, NB318_317.out, NB317_318.out, GW318.out, GE318.out, NB309_318.out, NB318_309.out, bz⟩)
             · skip
               rintro gb317 w20 ⟨hS_, h0_, h1_, h2_, h3_, h4_, h5_, h6_⟩; have n0_ : Aside0 (w20.heap[gb309]? = some (.cells #[.int .i64 t306, .int .u64 t307] 24 (0, 0))) := ⟨h0_⟩; have n1_ : Aside0 (w20.heap[gb317]? = some (.cells #[.int .i64 0, .int .u64 0] 24 (0, 0))) := ⟨h1_⟩; have n2_ : Aside0 (w.heap.size ≤ gb317) := ⟨h2_⟩; have n3_ : Aside0 (w.heap.size ≤ gb317) := ⟨h3_⟩; have n4_ : Aside0 (gb309 ≠ gb317) := ⟨h4_⟩; have n5_ : Aside0 (gb317 ≠ gb309) := ⟨h5_⟩; have n6_ : Aside0 (Below w.heap.size w w20) := ⟨h6_⟩; clear BK309 HB h0_ h1_ h2_ h3_ h4_ h5_ h6_; have BK309 := n0_; have BK317 := n1_; have GW317 := n2_; have GE317 := n3_; have NB309_317 := n4_; have NB317_309 := n5_; have HB := n6_; clear n0_ n1_ n2_ n3_ n4_ n5_ n6_; have hHeld : w20.cell? ⟨gb309, 0, none⟩ = some (.int .i64 t306) ∧ w20.cell? ⟨gb309, 1, none⟩ = some (.int .u64 t307) := hS_
               refine norm_ (a' := ?_) ?_ ?_
               rotate_left
               · simp only [putAll, Act.put, List.setIfInBounds_toArray, List.set_cons_zero, List.set_cons_succ]
                 rfl
               refine two_ (i := 3) (j := 9) (Ni := some 26) (Nj := some 11) #[true, true, true, true, false, false, false, false, true, false, false, false, false] #[true, true, true, false, false, false, false, false, true, true, false, false, false] rfl rfl rfl rfl (two_of HT_.out (by kernel_rfl)) (by decide) (by decide) (fun K hK => ?_) (fun K hK => ?_)
               · skip
                 refine goes_ Try.func31 (by kernel_rfl) rfl #[.agg #[.int .i64 t306, .int .u64 t307], .agg #[.int .i64 t310, .int .u64 t311]] (by rfl) rfl rfl (by (try simp only [List.map_toArray, List.map_cons, List.map_nil]); first | done | rfl | (simp only [List.length_drop, List.length_take]; rfl)) ?_
                 with_reducible refine (wide_Quo.calls k t306 t307 t310 t311 t312 t313 t314 t315 t316 _ A9.out).mono ?_
                 rintro e w21 ⟨rfl, hb⟩; refine ⟨_, rfl, ?_⟩; have n0_ := am (bb BK309 hb); have n1_ := am (bb BK317 hb); have n2_ := am (below_step bz hb); clear BK309 BK317 HB; have BK309 := n0_; have BK317 := n1_; have HB := n2_; clear n0_ n1_ n2_; (try clear hb); (try clear hb2); (try clear hk); (try clear hi)
                 refine hK.out _ _ ⟨(blk_cell BK309.out 0).trans rfl, (blk_cell BK309.out 1).trans rfl⟩ (fun hHeld => ?_)
                 clear hK K
                 refine norm_ (a' := ?_) ?_ ?_
                 rotate_left
                 · show Act.put _ (some 26) _ = _
                   simp only [Act.put, List.setIfInBounds_toArray, List.set_cons_zero, List.set_cons_succ, i64_w, i32_w]
                   rfl
                 refine pure_ (i := 4) (N := some 22) (v := ?_) (a' := ?_) #[true, true, true, true, true, false, false, false, true, false, false, false, false] rfl rfl (any_of HT_.out (by kernel_rfl)) (fun _ _ _ h => h) (Or.inl ⟨by rfl, ?_⟩) ?_ ?_
                 rotate_left
                 · intro w'
                   go_simp
                   with_reducible rfl
                 rotate_left
                 · simp only [Act.put, List.setIfInBounds_toArray, List.set_cons_zero, List.set_cons_succ, i64_w, i32_w]
                   rfl
                 refine pure_ (i := 5) (N := some 27) (v := ?_) (a' := ?_) #[true, true, true, true, true, true, false, false, true, false, false, false, false] rfl rfl (any_of HT_.out (by kernel_rfl)) (fun _ _ _ h => h) (Or.inl ⟨by rfl, ?_⟩) ?_ ?_
                 rotate_left
                 · intro w'
                   go_simp
                   with_reducible rfl
                 rotate_left
                 · simp only [Act.put, List.setIfInBounds_toArray, List.set_cons_zero, List.set_cons_succ, i64_w, i32_w]
                   rfl
                 refine pure_ (i := 6) (N := some 28) (v := ?_) (a' := ?_) #[true, true, true, true, true, true, true, false, true, false, false, false, false] rfl rfl (any_of HT_.out (by kernel_rfl)) (fun _ _ _ h => h) (Or.inl ⟨by rfl, ?_⟩) ?_ ?_
                 rotate_left
                 · intro w'
                   go_simp
                   with_reducible rfl
                 rotate_left
                 · simp only [Act.put, List.setIfInBounds_toArray, List.set_cons_zero, List.set_cons_succ, i64_w, i32_w]
                   rfl
                 refine pure_ (i := 7) (N := some 29) (v := ?_) (a' := ?_) #[true, true, true, true, true, true, true, true, true, false, false, false, false] rfl rfl (any_of HT_.out (by kernel_rfl)) (fun _ _ _ h => h) (Or.inl ⟨by rfl, ?_⟩) ?_ ?_
                 rotate_left
                 · intro w'
                   go_simp
                   with_reducible rfl
                 rotate_left
                 · simp only [Act.put, List.setIfInBounds_toArray, List.set_cons_zero, List.set_cons_succ, i64_w, i32_w]
                   rfl
                 exact norm_ (by first | (simp only [putAll, Act.put, List.setIfInBounds_toArray, List.set_cons_zero, List.set_cons_succ]; done) | (simp only [putAll, Act.put, List.setIfInBounds_toArray, List.set_cons_zero, List.set_cons_succ]; rfl)) (hJ2_3_8 (gb317) _ ⟨hHeld, (bq BK309), (bq BK317), GW317.out, GE317.out, NB309_317.out, NB317_309.out, bz⟩)
               · skip
                 refine box_step ?hg (N := 11) ?hd (cs := #[.int .i64 0, .int .u64 0]) (t := 24) ?hr ?_; (case hd => rfl); (case hg => rfl); (case hr => first | (go_simp; done) | (go_simp; rfl))
                 intro gb318 hg w21 hbox hb; have n0_ := am (bb BK309 hb); have n1_ := am (bb BK317 hb); have n2_ := am (below_step bz hb); have n3_ := am (hbox); have n4_ := am ((by rw [hg]; exact (below_size bz) : w.heap.size ≤ gb318)); have n5_ := am ((by rw [hg]; exact (below_size bz) : w.heap.size ≤ gb318)); have n6_ := am ((by rw [hg]; exact Nat.ne_of_lt (blk_lt (g := gb309) (o := .cells #[.int .i64 t306, .int .u64 t307] 24 (0, 0)) (bq BK309)) : gb309 ≠ gb318)); have n7_ := am ((by rw [hg]; exact Nat.ne_of_gt (blk_lt (g := gb309) (o := .cells #[.int .i64 t306, .int .u64 t307] 24 (0, 0)) (bq BK309)) : gb318 ≠ gb309)); have n8_ := am ((by rw [hg]; exact Nat.ne_of_lt (blk_lt (g := gb317) (o := .cells #[.int .i64 0, .int .u64 0] 24 (0, 0)) (bq BK317)) : gb317 ≠ gb318)); have n9_ := am ((by rw [hg]; exact Nat.ne_of_gt (blk_lt (g := gb317) (o := .cells #[.int .i64 0, .int .u64 0] 24 (0, 0)) (bq BK317)) : gb318 ≠ gb317)); clear BK309 BK317 HB; have BK309 := n0_; have BK317 := n1_; have HB := n2_; have BK318 := n3_; have GW318 := n4_; have GE318 := n5_; have NB309_318 := n6_; have NB318_309 := n7_; have NB317_318 := n8_; have NB318_317 := n9_; clear n0_ n1_ n2_ n3_ n4_ n5_ n6_ n7_ n8_ n9_ hb hbox hg
                 refine hK.out _ _ ⟨(blk_cell BK309.out 0).trans rfl, (blk_cell BK309.out 1).trans rfl⟩ (fun hHeld => ?_)
                 clear hK K
                 refine norm_ (a' := ?_) ?_ ?_
                 rotate_left
                 · show Act.put _ (some 11) _ = _
                   simp only [Act.put, List.setIfInBounds_toArray, List.set_cons_zero, List.set_cons_succ, i64_w, i32_w]
                   rfl
                 exact norm_ (by first | (simp only [putAll, Act.put, List.setIfInBounds_toArray, List.set_cons_zero, List.set_cons_succ]; done) | (simp only [putAll, Act.put, List.setIfInBounds_toArray, List.set_cons_zero, List.set_cons_succ]; rfl)) (hJ2_8_9 (gb317, gb318) _ ⟨hHeld, (bq BK309), (bq BK317), (bq BK318), GW317.out, GE317.out, NB309_317.out, NB317_309.out, NB318_317.out, NB317_318.out, GW318.out, GE318.out, NB309_318.out, NB318_309.out, bz⟩)
           · skip
             rintro _ w20 ⟨hS_, h0_, h1_⟩; have n0_ : Aside0 (w20.heap[gb309]? = some (.cells #[.int .i64 t306, .int .u64 t307] 24 (0, 0))) := ⟨h0_⟩; have n1_ : Aside0 (Below w.heap.size w w20) := ⟨h1_⟩; clear BK309 HB h0_ h1_; have BK309 := n0_; have HB := n1_; clear n0_ n1_; have hHeld : w20.cell? ⟨gb309, 0, none⟩ = some (.int .i64 t306) ∧ w20.cell? ⟨gb309, 1, none⟩ = some (.int .u64 t307) := hS_
             refine norm_ (a' := ?_) ?_ ?_
             rotate_left
             · simp only [putAll, Act.put, List.setIfInBounds_toArray, List.set_cons_zero, List.set_cons_succ]
               rfl
             refine two_ (i := 8) (j := 9) (Ni := some 10) (Nj := some 11) #[true, true, true, true, true, true, true, true, true, false, false, false, false] #[true, true, true, true, true, true, true, true, false, true, false, false, false] rfl rfl rfl rfl (two_of HT_.out (by kernel_rfl)) (by decide) (by decide) (fun K hK => ?_) (fun K hK => ?_)
             · skip
               refine box_step ?hg (N := 10) ?hd (cs := #[.int .i64 0, .int .u64 0]) (t := 24) ?hr ?_; (case hd => rfl); (case hg => rfl); (case hr => first | (go_simp; done) | (go_simp; rfl))
               intro gb317 hg w21 hbox hb; have n0_ := am (bb BK309 hb); have n1_ := am (below_step bz hb); have n2_ := am (hbox); have n3_ := am ((by rw [hg]; exact (below_size bz) : w.heap.size ≤ gb317)); have n4_ := am ((by rw [hg]; exact (below_size bz) : w.heap.size ≤ gb317)); have n5_ := am ((by rw [hg]; exact Nat.ne_of_lt (blk_lt (g := gb309) (o := .cells #[.int .i64 t306, .int .u64 t307] 24 (0, 0)) (bq BK309)) : gb309 ≠ gb317)); have n6_ := am ((by rw [hg]; exact Nat.ne_of_gt (blk_lt (g := gb309) (o := .cells #[.int .i64 t306, .int .u64 t307] 24 (0, 0)) (bq BK309)) : gb317 ≠ gb309)); clear BK309 HB; have BK309 := n0_; have HB := n1_; have BK317 := n2_; have GW317 := n3_; have GE317 := n4_; have NB309_317 := n5_; have NB317_309 := n6_; clear n0_ n1_ n2_ n3_ n4_ n5_ n6_ hb hbox hg
               refine hK.out _ _ ⟨(blk_cell BK309.out 0).trans rfl, (blk_cell BK309.out 1).trans rfl⟩ (fun hHeld => ?_)
               clear hK K
               refine norm_ (a' := ?_) ?_ ?_
               rotate_left
               · show Act.put _ (some 10) _ = _
                 simp only [Act.put, List.setIfInBounds_toArray, List.set_cons_zero, List.set_cons_succ, i64_w, i32_w]
                 rfl
               exact norm_ (by first | (simp only [putAll, Act.put, List.setIfInBounds_toArray, List.set_cons_zero, List.set_cons_succ]; done) | (simp only [putAll, Act.put, List.setIfInBounds_toArray, List.set_cons_zero, List.set_cons_succ]; rfl)) (hJ2_3_8 (gb317) _ ⟨hHeld, (bq BK309), (bq BK317), GW317.out, GE317.out, NB309_317.out, NB317_309.out, bz⟩)
             · skip
               refine box_step ?hg (N := 11) ?hd (cs := #[.int .i64 0, .int .u64 0]) (t := 24) ?hr ?_; (case hd => rfl); (case hg => rfl); (case hr => first | (go_simp; done) | (go_simp; rfl))
               intro gb318 hg w21 hbox hb; have n0_ := am (bb BK309 hb); have n1_ := am (below_step bz hb); have n2_ := am (hbox); have n3_ := am ((by rw [hg]; exact (below_size bz) : w.heap.size ≤ gb318)); have n4_ := am ((by rw [hg]; exact (below_size bz) : w.heap.size ≤ gb318)); have n5_ := am ((by rw [hg]; exact Nat.ne_of_lt (blk_lt (g := gb309) (o := .cells #[.int .i64 t306, .int .u64 t307] 24 (0, 0)) (bq BK309)) : gb309 ≠ gb318)); have n6_ := am ((by rw [hg]; exact Nat.ne_of_gt (blk_lt (g := gb309) (o := .cells #[.int .i64 t306, .int .u64 t307] 24 (0, 0)) (bq BK309)) : gb318 ≠ gb309)); clear BK309 HB; have BK309 := n0_; have HB := n1_; have BK318 := n2_; have GW318 := n3_; have GE318 := n4_; have NB309_318 := n5_; have NB318_309 := n6_; clear n0_ n1_ n2_ n3_ n4_ n5_ n6_ hb hbox hg
               refine hK.out _ _ ⟨(blk_cell BK309.out 0).trans rfl, (blk_cell BK309.out 1).trans rfl⟩ (fun hHeld => ?_)
               clear hK K
               refine norm_ (a' := ?_) ?_ ?_
               rotate_left
               · show Act.put _ (some 11) _ = _
                 simp only [Act.put, List.setIfInBounds_toArray, List.set_cons_zero, List.set_cons_succ, i64_w, i32_w]
                 rfl
               exact norm_ (by first | (simp only [putAll, Act.put, List.setIfInBounds_toArray, List.set_cons_zero, List.set_cons_succ]; done) | (simp only [putAll, Act.put, List.setIfInBounds_toArray, List.set_cons_zero, List.set_cons_succ]; rfl)) (hJ2_3_9 (gb318) _ ⟨hHeld, (bq BK309), (bq BK318), GW318.out, GE318.out, NB309_318.out, NB318_309.out, bz⟩)
         · skip
           rintro ⟨gb317, gb318⟩ w21 ⟨hS_, h0_, h1_, h2_, h3_, h4_, h5_, h6_, h7_, h8_, h9_, h10_, h11_, h12_, h13_⟩; have n0_ : Aside0 (w21.heap[gb309]? = some (.cells #[.int .i64 t306, .int .u64 t307] 24 (0, 0))) := ⟨h0_⟩; have n1_ : Aside0 (w21.heap[gb317]? = some (.cells #[.int .i64 0, .int .u64 0] 24 (0, 0))) := ⟨h1_⟩; have n2_ : Aside0 (w21.heap[gb318]? = some (.cells #[.int .i64 0, .int .u64 0] 24 (0, 0))) := ⟨h2_⟩; have n3_ : Aside0 (w.heap.size ≤ gb317) := ⟨h3_⟩; have n4_ : Aside0 (w.heap.size ≤ gb317) := ⟨h4_⟩; have n5_ : Aside0 (gb309 ≠ gb317) := ⟨h5_⟩; have n6_ : Aside0 (gb317 ≠ gb309) := ⟨h6_⟩; have n7_ : Aside0 (gb318 ≠ gb317) := ⟨h7_⟩; have n8_ : Aside0 (gb317 ≠ gb318) := ⟨h8_⟩; have n9_ : Aside0 (w.heap.size ≤ gb318) := ⟨h9_⟩; have n10_ : Aside0 (w.heap.size ≤ gb318) := ⟨h10_⟩; have n11_ : Aside0 (gb309 ≠ gb318) := ⟨h11_⟩; have n12_ : Aside0 (gb318 ≠ gb309) := ⟨h12_⟩; have n13_ : Aside0 (Below w.heap.size w w21) := ⟨h13_⟩; clear BK309 HB h0_ h1_ h2_ h3_ h4_ h5_ h6_ h7_ h8_ h9_ h10_ h11_ h12_ h13_; have BK309 := n0_; have BK317 := n1_; have BK318 := n2_; have GW317 := n3_; have GE317 := n4_; have NB309_317 := n5_; have NB317_309 := n6_; have NB318_317 := n7_; have NB317_318 := n8_; have GW318 := n9_; have GE318 := n10_; have NB309_318 := n11_; have NB318_309 := n12_; have HB := n13_; clear n0_ n1_ n2_ n3_ n4_ n5_ n6_ n7_ n8_ n9_ n10_ n11_ n12_ n13_; have hHeld : w21.cell? ⟨gb309, 0, none⟩ = some (.int .i64 t306) ∧ w21.cell? ⟨gb309, 1, none⟩ = some (.int .u64 t307) := hS_
           refine norm_ (a' := ?_) ?_ ?_
           rotate_left
           · simp only [putAll, Act.put, List.setIfInBounds_toArray, List.set_cons_zero, List.set_cons_succ]
             rfl
           refine one_ (i := 3) (N := some 26) #[true, true, true, true, false, false, false, false, true, true, false, false, false] rfl rfl (one_of HT_.out (by kernel_rfl)) (by decide) (fun K hK => ?_)
           refine goes_ Try.func31 (by kernel_rfl) rfl #[.agg #[.int .i64 t306, .int .u64 t307], .agg #[.int .i64 t310, .int .u64 t311]] (by rfl) rfl rfl (by (try simp only [List.map_toArray, List.map_cons, List.map_nil]); first | done | rfl | (simp only [List.length_drop, List.length_take]; rfl)) ?_
           with_reducible refine (wide_Quo.calls k t306 t307 t310 t311 t312 t313 t314 t315 t316 _ A9.out).mono ?_
           rintro e w22 ⟨rfl, hb⟩; refine ⟨_, rfl, ?_⟩; have n0_ := am (bb BK309 hb); have n1_ := am (bb BK317 hb); have n2_ := am (bb BK318 hb); have n3_ := am (below_step bz hb); clear BK309 BK317 BK318 HB; have BK309 := n0_; have BK317 := n1_; have BK318 := n2_; have HB := n3_; clear n0_ n1_ n2_ n3_; (try clear hb); (try clear hb2); (try clear hk); (try clear hi)
           refine hK.out _ _ ⟨(blk_cell BK309.out 0).trans rfl, (blk_cell BK309.out 1).trans rfl⟩ (fun hHeld => ?_)
           clear hK K
           refine norm_ (a' := ?_) ?_ ?_
           rotate_left
           · show Act.put _ (some 26) _ = _
             simp only [Act.put, List.setIfInBounds_toArray, List.set_cons_zero, List.set_cons_succ, i64_w, i32_w]
             rfl
           refine pure_ (i := 4) (N := some 22) (v := ?_) (a' := ?_) #[true, true, true, true, true, false, false, false, true, true, false, false, false] rfl rfl (any_of HT_.out (by kernel_rfl)) (fun _ _ _ h => h) (Or.inl ⟨by rfl, ?_⟩) ?_ ?_
           rotate_left
           · intro w'
             go_simp
             with_reducible rfl
           rotate_left
           · simp only [Act.put, List.setIfInBounds_toArray, List.set_cons_zero, List.set_cons_succ, i64_w, i32_w]
             rfl
           refine pure_ (i := 5) (N := some 27) (v := ?_) (a' := ?_) #[true, true, true, true, true, true, false, false, true, true, false, false, false] rfl rfl (any_of HT_.out (by kernel_rfl)) (fun _ _ _ h => h) (Or.inl ⟨by rfl, ?_⟩) ?_ ?_
           rotate_left
           · intro w'
             go_simp
             with_reducible rfl
           rotate_left
           · simp only [Act.put, List.setIfInBounds_toArray, List.set_cons_zero, List.set_cons_succ, i64_w, i32_w]
             rfl
           refine pure_ (i := 6) (N := some 28) (v := ?_) (a' := ?_) #[true, true, true, true, true, true, true, false, true, true, false, false, false] rfl rfl (any_of HT_.out (by kernel_rfl)) (fun _ _ _ h => h) (Or.inl ⟨by rfl, ?_⟩) ?_ ?_
           rotate_left
           · intro w'
             go_simp
             with_reducible rfl
           rotate_left
           · simp only [Act.put, List.setIfInBounds_toArray, List.set_cons_zero, List.set_cons_succ, i64_w, i32_w]
             rfl
           refine pure_ (i := 7) (N := some 29) (v := ?_) (a' := ?_) #[true, true, true, true, true, true, true, true, true, true, false, false, false] rfl rfl (any_of HT_.out (by kernel_rfl)) (fun _ _ _ h => h) (Or.inl ⟨by rfl, ?_⟩) ?_ ?_
           rotate_left
           · intro w'
             go_simp
             with_reducible rfl
           rotate_left
           · simp only [Act.put, List.setIfInBounds_toArray, List.set_cons_zero, List.set_cons_succ, i64_w, i32_w]
             rfl
           exact norm_ (by first | (simp only [putAll, Act.put, List.setIfInBounds_toArray, List.set_cons_zero, List.set_cons_succ]; done) | (simp only [putAll, Act.put, List.setIfInBounds_toArray, List.set_cons_zero, List.set_cons_succ]; rfl)) (hJ2_3_8_9 (gb317, gb318) _ ⟨hHeld, (bq BK309), (bq BK317), (bq BK318), GW317.out, GE317.out, NB309_317.out, NB317_309.out, NB318_317.out, NB317_318.out, GW318.out, GE318.out, NB309_318.out, NB318_309.out, bz⟩)
       · skip
         rintro gb318 w21 ⟨hS_, h0_, h1_, h2_, h3_, h4_, h5_, h6_⟩; have n0_ : Aside0 (w21.heap[gb309]? = some (.cells #[.int .i64 t306, .int .u64 t307] 24 (0, 0))) := ⟨h0_⟩; have n1_ : Aside0 (w21.heap[gb318]? = some (.cells #[.int .i64 0, .int .u64 0] 24 (0, 0))) := ⟨h1_⟩; have n2_ : Aside0 (w.heap.size ≤ gb318) := ⟨h2_⟩; have n3_ : Aside0 (w.heap.size ≤ gb318) := ⟨h3_⟩; have n4_ : Aside0 (gb309 ≠ gb318) := ⟨h4_⟩; have n5_ : Aside0 (gb318 ≠ gb309) := ⟨h5_⟩; have n6_ : Aside0 (Below w.heap.size w w21) := ⟨h6_⟩; clear BK309 HB h0_ h1_ h2_ h3_ h4_ h5_ h6_; have BK309 := n0_; have BK318 := n1_; have GW318 := n2_; have GE318 := n3_; have NB309_318 := n4_; have NB318_309 := n5_; have HB := n6_; clear n0_ n1_ n2_ n3_ n4_ n5_ n6_; have hHeld : w21.cell? ⟨gb309, 0, none⟩ = some (.int .i64 t306) ∧ w21.cell? ⟨gb309, 1, none⟩ = some (.int .u64 t307) := hS_
         refine norm_ (a' := ?_) ?_ ?_
         rotate_left
         · simp only [putAll, Act.put, List.setIfInBounds_toArray, List.set_cons_zero, List.set_cons_succ]
           rfl
         refine one_ (i := 8) (N := some 10) #[true, true, true, true, true, true, true, true, true, true, false, false, false] rfl rfl (one_of HT_.out (by kernel_rfl)) (by decide) (fun K hK => ?_)
         refine box_step ?hg (N := 10) ?hd (cs := #[.int .i64 0, .int .u64 0]) (t := 24) ?hr ?_; (case hd => rfl); (case hg => rfl); (case hr => first | (go_simp; done) | (go_simp; rfl))
         intro gb317 hg w22 hbox hb; have n0_ := am (bb BK309 hb); have n1_ := am (bb BK318 hb); have n2_ := am (below_step bz hb); have n3_ := am (hbox); have n4_ := am ((by rw [hg]; exact (below_size bz) : w.heap.size ≤ gb317)); have n5_ := am ((by rw [hg]; exact (below_size bz) : w.heap.size ≤ gb317)); have n6_ := am ((by rw [hg]; exact Nat.ne_of_lt (blk_lt (g := gb309) (o := .cells #[.int .i64 t306, .int .u64 t307] 24 (0, 0)) (bq BK309)) : gb309 ≠ gb317)); have n7_ := am ((by rw [hg]; exact Nat.ne_of_gt (blk_lt (g := gb309) (o := .cells #[.int .i64 t306, .int .u64 t307] 24 (0, 0)) (bq BK309)) : gb317 ≠ gb309)); have n8_ := am ((by rw [hg]; exact Nat.ne_of_lt (blk_lt (g := gb318) (o := .cells #[.int .i64 0, .int .u64 0] 24 (0, 0)) (bq BK318)) : gb318 ≠ gb317)); have n9_ := am ((by rw [hg]; exact Nat.ne_of_gt (blk_lt (g := gb318) (o := .cells #[.int .i64 0, .int .u64 0] 24 (0, 0)) (bq BK318)) : gb317 ≠ gb318)); clear BK309 BK318 HB; have BK309 := n0_; have BK318 := n1_; have HB := n2_; have BK317 := n3_; have GW317 := n4_; have GE317 := n5_; have NB309_317 := n6_; have NB317_309 := n7_; have NB318_317 := n8_; have NB317_318 := n9_; clear n0_ n1_ n2_ n3_ n4_ n5_ n6_ n7_ n8_ n9_ hb hbox hg
         refine hK.out _ _ ⟨(blk_cell BK309.out 0).trans rfl, (blk_cell BK309.out 1).trans rfl⟩ (fun hHeld => ?_)
         clear hK K
         refine norm_ (a' := ?_) ?_ ?_
         rotate_left
         · show Act.put _ (some 10) _ = _
           simp only [Act.put, List.setIfInBounds_toArray, List.set_cons_zero, List.set_cons_succ, i64_w, i32_w]
           rfl
         exact norm_ (by first | (simp only [putAll, Act.put, List.setIfInBounds_toArray, List.set_cons_zero, List.set_cons_succ]; done) | (simp only [putAll, Act.put, List.setIfInBounds_toArray, List.set_cons_zero, List.set_cons_succ]; rfl)) (hJ2_3_8_9 (gb317, gb318) _ ⟨hHeld, (bq BK309), (bq BK317), (bq BK318), GW317.out, GE317.out, NB309_317.out, NB317_309.out, NB318_317.out, NB317_318.out, GW318.out, GE318.out, NB309_318.out, NB318_309.out, bz⟩)
     · skip
       rintro gb317 w21 ⟨hS_, h0_, h1_, h2_, h3_, h4_, h5_, h6_⟩; have n0_ : Aside0 (w21.heap[gb309]? = some (.cells #[.int .i64 t306, .int .u64 t307] 24 (0, 0))) := ⟨h0_⟩; have n1_ : Aside0 (w21.heap[gb317]? = some (.cells #[.int .i64 0, .int .u64 0] 24 (0, 0))) := ⟨h1_⟩; have n2_ : Aside0 (w.heap.size ≤ gb317) := ⟨h2_⟩; have n3_ : Aside0 (w.heap.size ≤ gb317) := ⟨h3_⟩; have n4_ : Aside0 (gb309 ≠ gb317) := ⟨h4_⟩; have n5_ : Aside0 (gb317 ≠ gb309) := ⟨h5_⟩; have n6_ : Aside0 (Below w.heap.size w w21) := ⟨h6_⟩; clear BK309 HB h0_ h1_ h2_ h3_ h4_ h5_ h6_; have BK309 := n0_; have BK317 := n1_; have GW317 := n2_; have GE317 := n3_; have NB309_317 := n4_; have NB317_309 := n5_; have HB := n6_; clear n0_ n1_ n2_ n3_ n4_ n5_ n6_; have hHeld : w21.cell? ⟨gb309, 0, none⟩ = some (.int .i64 t306) ∧ w21.cell? ⟨gb309, 1, none⟩ = some (.int .u64 t307) := hS_
       refine norm_ (a' := ?_) ?_ ?_
       rotate_left
       · simp only [putAll, Act.put, List.setIfInBounds_toArray, List.set_cons_zero, List.set_cons_succ]
         rfl
       refine one_ (i := 9) (N := some 11) #[true, true, true, true, true, true, true, true, true, true, false, false, false] rfl rfl (one_of HT_.out (by kernel_rfl)) (by decide) (fun K hK => ?_)
       refine box_step ?hg (N := 11) ?hd (cs := #[.int .i64 0, .int .u64 0]) (t := 24) ?hr ?_; (case hd => rfl); (case hg => rfl); (case hr => first | (go_simp; done) | (go_simp; rfl))
       intro gb318 hg w22 hbox hb; have n0_ := am (bb BK309 hb); have n1_ := am (bb BK317 hb); have n2_ := am (below_step bz hb); have n3_ := am (hbox); have n4_ := am ((by rw [hg]; exact (below_size bz) : w.heap.size ≤ gb318)); have n5_ := am ((by rw [hg]; exact (below_size bz) : w.heap.size ≤ gb318)); have n6_ := am ((by rw [hg]; exact Nat.ne_of_lt (blk_lt (g := gb309) (o := .cells #[.int .i64 t306, .int .u64 t307] 24 (0, 0)) (bq BK309)) : gb309 ≠ gb318)); have n7_ := am ((by rw [hg]; exact Nat.ne_of_gt (blk_lt (g := gb309) (o := .cells #[.int .i64 t306, .int .u64 t307] 24 (0, 0)) (bq BK309)) : gb318 ≠ gb309)); have n8_ := am ((by rw [hg]; exact Nat.ne_of_lt (blk_lt (g := gb317) (o := .cells #[.int .i64 0, .int .u64 0] 24 (0, 0)) (bq BK317)) : gb317 ≠ gb318)); have n9_ := am ((by rw [hg]; exact Nat.ne_of_gt (blk_lt (g := gb317) (o := .cells #[.int .i64 0, .int .u64 0] 24 (0, 0)) (bq BK317)) : gb318 ≠ gb317)); clear BK309 BK317 HB; have BK309 := n0_; have BK317 := n1_; have HB := n2_; have BK318 := n3_; have GW318 := n4_; have GE318 := n5_; have NB309_318 := n6_; have NB318_309 := n7_; have NB317_318 := n8_; have NB318_317 := n9_; clear n0_ n1_ n2_ n3_ n4_ n5_ n6_ n7_ n8_ n9_ hb hbox hg
       refine hK.out _ _ ⟨(blk_cell BK309.out 0).trans rfl, (blk_cell BK309.out 1).trans rfl⟩ (fun hHeld => ?_)
       clear hK K
       refine norm_ (a' := ?_) ?_ ?_
       rotate_left
       · show Act.put _ (some 11) _ = _
         simp only [Act.put, List.setIfInBounds_toArray, List.set_cons_zero, List.set_cons_succ, i64_w, i32_w]
         rfl
       exact norm_ (by first | (simp only [putAll, Act.put, List.setIfInBounds_toArray, List.set_cons_zero, List.set_cons_succ]; done) | (simp only [putAll, Act.put, List.setIfInBounds_toArray, List.set_cons_zero, List.set_cons_succ]; rfl)) (hJ2_3_8_9 (gb317, gb318) _ ⟨hHeld, (bq BK309), (bq BK317), (bq BK318), GW317.out, GE317.out, NB309_317.out, NB317_309.out, NB318_317.out, NB317_318.out, GW318.out, GE318.out, NB309_318.out, NB318_309.out, bz⟩)
   rintro ⟨gb317, gb318⟩ w22 ⟨hS_, h0_, h1_, h2_, h3_, h4_, h5_, h6_, h7_, h8_, h9_, h10_, h11_, h12_, h13_⟩; have n0_ : Aside0 (w22.heap[gb309]? = some (.cells #[.int .i64 t306, .int .u64 t307] 24 (0, 0))) := ⟨h0_⟩; have n1_ : Aside0 (w22.heap[gb317]? = some (.cells #[.int .i64 0, .int .u64 0] 24 (0, 0))) := ⟨h1_⟩; have n2_ : Aside0 (w22.heap[gb318]? = some (.cells #[.int .i64 0, .int .u64 0] 24 (0, 0))) := ⟨h2_⟩; have n3_ : Aside0 (w.heap.size ≤ gb317) := ⟨h3_⟩; have n4_ : Aside0 (w.heap.size ≤ gb317) := ⟨h4_⟩; have n5_ : Aside0 (gb309 ≠ gb317) := ⟨h5_⟩; have n6_ : Aside0 (gb317 ≠ gb309) := ⟨h6_⟩; have n7_ : Aside0 (gb318 ≠ gb317) := ⟨h7_⟩; have n8_ : Aside0 (gb317 ≠ gb318) := ⟨h8_⟩; have n9_ : Aside0 (w.heap.size ≤ gb318) := ⟨h9_⟩; have n10_ : Aside0 (w.heap.size ≤ gb318) := ⟨h10_⟩; have n11_ : Aside0 (gb309 ≠ gb318) := ⟨h11_⟩; have n12_ : Aside0 (gb318 ≠ gb309) := ⟨h12_⟩; have n13_ : Aside0 (Below w.heap.size w w22) := ⟨h13_⟩; clear BK309 HB h0_ h1_ h2_ h3_ h4_ h5_ h6_ h7_ h8_ h9_ h10_ h11_ h12_ h13_; have BK309 := n0_; have BK317 := n1_; have BK318 := n2_; have GW317 := n3_; have GE317 := n4_; have NB309_317 := n5_; have NB317_309 := n6_; have NB318_317 := n7_; have NB317_318 := n8_; have GW318 := n9_; have GE318 := n10_; have NB309_318 := n11_; have NB318_309 := n12_; have HB := n13_; clear n0_ n1_ n2_ n3_ n4_ n5_ n6_ n7_ n8_ n9_ n10_ n11_ n12_ n13_; have hHeld : w22.cell? ⟨gb309, 0, none⟩ = some (.int .i64 t306) ∧ w22.cell? ⟨gb309, 1, none⟩ = some (.int .u64 t307) := hS_
   refine norm_ (a' := ?_) ?_ ?_
   rotate_left
   · simp only [putAll, Act.put, List.setIfInBounds_toArray, List.set_cons_zero, List.set_cons_succ]
     rfl
   refine one_ (i := 10) (N := none) #[true, true, true, true, true, true, true, true, true, true, true, false, false] rfl rfl (one_of HT_.out (by kernel_rfl)) (by decide) (fun K hK => ?_)
   have hs23 : w22.cell? ⟨gb317, 0, none⟩ = some (.int .i64 0) := (blk_cell BK317.out 0).trans rfl; have hfs23 := blk_frozen BK317.out 0; have hns23_0 := NB309_317.out; have hns23_2 := NB318_317.out; have hms23_0 := NB317_309.out; have hms23_2 := NB317_318.out; have hs24 : w22.cell? ⟨gb317, 1, none⟩ = some (.int .u64 0) := (blk_cell BK317.out 1).trans rfl; have hfs24 := blk_frozen BK317.out 1; have hns24_0 := NB309_317.out; have hns24_2 := NB318_317.out; have hms24_0 := NB317_309.out; have hms24_2 := NB317_318.out
   refine skip_ (w1 := ?_) (by rfl) rfl ?_ ?_
   rotate_left
   · go_simp
     rfl
   refine hK.out _ _ ⟨((cell_far (p := ⟨gb317, _, none⟩) NB309_317.out _).trans (((cell_far (p := ⟨gb317, _, none⟩) NB309_317.out _).trans (hHeld.1)))), ((cell_far (p := ⟨gb317, _, none⟩) NB309_317.out _).trans (((cell_far (p := ⟨gb317, _, none⟩) NB309_317.out _).trans (hHeld.2))))⟩ (fun hHeld => ?_)
   clear hK K
   refine one_ (i := 11) (N := none) #[true, true, true, true, true, true, true, true, true, true, true, true, false] rfl rfl (one_of HT_.out (by kernel_rfl)) (by decide) (fun K hK => ?_)
   have hs25 : w22.cell? ⟨gb318, 0, none⟩ = some (.int .i64 0) := (blk_cell BK318.out 0).trans rfl; have hfs25 := blk_frozen BK318.out 0; have hns25_0 := NB309_318.out; have hns25_1 := NB317_318.out; have hms25_0 := NB318_309.out; have hms25_1 := NB318_317.out; have hs26 : w22.cell? ⟨gb318, 1, none⟩ = some (.int .u64 0) := (blk_cell BK318.out 1).trans rfl; have hfs26 := blk_frozen BK318.out 1; have hns26_0 := NB309_318.out; have hns26_1 := NB317_318.out; have hms26_0 := NB318_309.out; have hms26_1 := NB318_317.out
   refine skip_ (w1 := ?_) (by rfl) rfl ?_ ?_
   rotate_left
   · go_simp
     rfl
   refine hK.out _ _ ⟨((cell_far (p := ⟨gb318, _, none⟩) NB309_318.out _).trans (((cell_far (p := ⟨gb318, _, none⟩) NB309_318.out _).trans (hHeld.1)))), ((cell_far (p := ⟨gb318, _, none⟩) NB309_318.out _).trans (((cell_far (p := ⟨gb318, _, none⟩) NB309_318.out _).trans (hHeld.2))))⟩ (fun hHeld => ?_)
   clear hK K
   refine pure_ (i := 12) (N := some 9) (v := ?_) (a' := ?_) #[true, true, true, true, true, true, true, true, true, true, true, true, true] rfl rfl (any_of HT_.out (by kernel_rfl)) (fun _ _ _ h => h) (Or.inl ⟨by rfl, ?_⟩) ?_ ?_
   rotate_left
   · intro w'
     go_simp
     with_reducible rfl
   rotate_left
   · simp only [Act.put, List.setIfInBounds_toArray, List.set_cons_zero, List.set_cons_succ, i64_w, i32_w]
     rfl
   refine done_ (done_of HT_.out (by kernel_rfl)) ?_
   have hnb27 := NB317_309.out; have hnc27 := NB309_317.out; have hnb28 := NB317_318.out; have hnc28 := NB318_317.out; have hcz29_0 : w22.cell? ⟨gb317, 0, none⟩ = some (.int .i64 0) := (blk_cell BK317.out 0).trans rfl; have hcz29_1 : w22.cell? ⟨gb317, 1, none⟩ = some (.int .u64 0) := (blk_cell BK317.out 1).trans rfl; have hfz29_0 := blk_frozen BK317.out 0; have hfz29_1 := blk_frozen BK317.out 1
   try go_wp2_with (first | ((with_reducible refine gate_callee (f := 38) rfl ?_); refine goesL_ (some 32) rfl rfl Try.func38 (by kernel_rfl) rfl #[.agg #[.int .i64 t312, .int .u64 t313], .int .i64 t316] rfl (by (try simp only [List.map_toArray, List.map_cons, List.map_nil]); first | done | rfl | (simp only [List.length_drop, List.length_take]; rfl)) ?_; (with_reducible refine (micro_small.calls t312 t313 t316 t319 t320 _ A10.out).mono ?_); rintro e w30 ⟨rfl, hb⟩; refine ⟨_, rfl, ?_⟩; have n0_ := am (blk_below (g := gb309) (o := .cells #[.int .i64 t306, .int .u64 t307] 24 (0, 0)) (by (with_reducible repeat (first | apply bA | apply bB | apply bC)); refine blk_far ?_ NB309_318.out _; (with_reducible repeat (first | apply bA | apply bB | apply bC)); refine blk_far ?_ NB309_318.out _; (with_reducible repeat (first | apply bA | apply bB | apply bC)); refine blk_far ?_ NB309_317.out _; (with_reducible repeat (first | apply bA | apply bB | apply bC)); refine blk_far ?_ NB309_317.out _; (with_reducible repeat (first | apply bA | apply bB | apply bC)); exact BK309.out) hb); have n1_ := am (blk_below (g := gb317) (o := .cells #[.int .i64 t312, .int .u64 t313] 24 (0, 0)) (by (with_reducible repeat (first | apply bA | apply bB | apply bC)); refine blk_far ?_ NB317_318.out _; (with_reducible repeat (first | apply bA | apply bB | apply bC)); refine blk_far ?_ NB317_318.out _; (with_reducible repeat (first | apply bA | apply bB | apply bC)); refine blk_put (cs := #[.int .i64 t312, .int .u64 0]) ?_ 1 _ rfl; (with_reducible repeat (first | apply bA | apply bB | apply bC)); refine blk_put (cs := #[.int .i64 0, .int .u64 0]) ?_ 0 _ rfl; (with_reducible repeat (first | apply bA | apply bB | apply bC)); exact BK317.out) hb); have n2_ := am (blk_below (g := gb318) (o := .cells #[.int .i64 t314, .int .u64 t315] 24 (0, 0)) (by (with_reducible repeat (first | apply bA | apply bB | apply bC)); refine blk_put (cs := #[.int .i64 t314, .int .u64 0]) ?_ 1 _ rfl; (with_reducible repeat (first | apply bA | apply bB | apply bC)); refine blk_put (cs := #[.int .i64 0, .int .u64 0]) ?_ 0 _ rfl; (with_reducible repeat (first | apply bA | apply bB | apply bC)); refine blk_far ?_ NB318_317.out _; (with_reducible repeat (first | apply bA | apply bB | apply bC)); refine blk_far ?_ NB318_317.out _; (with_reducible repeat (first | apply bA | apply bB | apply bC)); exact BK318.out) hb); have n3_ := am (below_step bz hb); clear BK309; clear BK317; clear BK318; clear HB; have BK309 := n0_; have BK317 := n1_; have BK318 := n2_; have HB := n3_; clear n0_ n1_ n2_ n3_; (try clear hb); (try clear hb2); (try clear hk); (try clear hi)))
   go_ret2
   exact ⟨by first | rfl | (simp [errW_none, errW_some] <;> rfl) | (simp [*, errW_none, errW_some] <;> rfl), by repeat (first | (with_reducible first | exact HB.out | apply dA | apply dB | apply dC | refine dE ?_ ‹_›) | exact HB.out)⟩
 · rw [if_neg c7] at H
   have c7b0 : (t308 == 0) = false := beq_eq_false_iff_ne.mpr c7; have c7b1 : (t308 != 0) = true := bne_iff_ne.mpr c7
   simp only [Option.some.injEq, Prod.mk.injEq] at H
   obtain ⟨rfl, rfl⟩ := H
   go_enter Try.func39, Try.ntmps39
   go_wp2_with (first | ((with_reducible refine gate_callee (f := 32) rfl ?_); refine goesL_ (some 14) rfl rfl Try.func32 (by kernel_rfl) rfl #[.int .i64 a0] rfl (by (try simp only [List.map_toArray, List.map_cons, List.map_nil]); first | done | rfl | (simp only [List.length_drop, List.length_take]; rfl)) ?_; (with_reducible refine (wide_Of.calls a0 t302 t303 _ A4.out).mono ?_); rintro e w31 ⟨rfl, hb⟩; refine ⟨_, rfl, ?_⟩; have n0_ := am (below_step bz hb); clear HB; have HB := n0_; clear n0_; (try clear hb); (try clear hb2); (try clear hk); (try clear hi)) | ((with_reducible refine gate_callee (f := 32) rfl ?_); refine goesL_ (some 16) rfl rfl Try.func32 (by kernel_rfl) rfl #[.int .i64 a1] rfl (by (try simp only [List.map_toArray, List.map_cons, List.map_nil]); first | done | rfl | (simp only [List.length_drop, List.length_take]; rfl)) ?_; (with_reducible refine (wide_Of.calls a1 t304 t305 _ A5.out).mono ?_); rintro e w32 ⟨rfl, hb⟩; refine ⟨_, rfl, ?_⟩; have n0_ := am (below_step bz hb); clear HB; have HB := n0_; clear n0_; (try clear hb); (try clear hb2); (try clear hk); (try clear hi)) | ((with_reducible refine gate_callee (f := 37) rfl ?_); refine goesL_ (some 17) rfl rfl Try.func37 (by kernel_rfl) rfl #[.agg #[.int .i64 t302, .int .u64 t303], .agg #[.int .i64 t304, .int .u64 t305]] rfl (by (try simp only [List.map_toArray, List.map_cons, List.map_nil]); first | done | rfl | (simp only [List.length_drop, List.length_take]; rfl)) ?_; (with_reducible refine (wide_Mul.calls k t302 t303 t304 t305 t306 t307 t308 _ A6.out).mono ?_); rintro e w33 ⟨rfl, hb⟩; refine ⟨_, rfl, ?_⟩; have n0_ := am (below_step bz hb); clear HB; have HB := n0_; clear n0_; (try clear hb); (try clear hb2); (try clear hk); (try clear hi)) | ((with_reducible refine gate_dst (N := 8) rfl ?_); refine box_event ?hg (N := 8) ?hd (cs := #[.int .i64 0, .int .u64 0]) (t := 24) ?hr ?_; (case hd => rfl); (case hg => rfl); (case hr => first | (go_simp; done) | (go_simp; rfl)); intro gb309 hg w34 hbox hb; have n0_ := am (below_step bz hb); have n1_ := am (hbox); have n2_ := am ((by rw [hg]; exact (below_size bz) : w.heap.size ≤ gb309)); have n3_ := am ((by rw [hg]; exact (below_size bz) : w.heap.size ≤ gb309)); clear HB; have HB := n0_; have BK309 := n1_; have GW309 := n2_; have GE309 := n3_; clear n0_ n1_ n2_ n3_; clear hb hbox hg; have hcz35_0 : w34.cell? ⟨gb309, 0, none⟩ = some (.int .i64 0) := (blk_cell BK309.out 0).trans rfl; have hcz35_1 : w34.cell? ⟨gb309, 1, none⟩ = some (.int .u64 0) := (blk_cell BK309.out 1).trans rfl; have hfz35_0 := blk_frozen BK309.out 0; have hfz35_1 := blk_frozen BK309.out 1))
   go_ret2
   exact ⟨by first | rfl | (simp [errW_none, errW_some] <;> rfl) | (simp [*, errW_none, errW_some] <;> rfl), by repeat (first | (with_reducible first | exact HB.out | apply dA | apply dB | apply dC | refine dE ?_ ‹_›) | exact HB.out)⟩

end Go.Proofs.Ytifhebempfjcmaa.P
