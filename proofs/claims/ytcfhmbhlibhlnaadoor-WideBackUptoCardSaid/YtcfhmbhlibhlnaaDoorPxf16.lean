-- Printed by this session's own pp.py (wip/tool) out of the translation.
import Derived.Test.YtcfhmbhlibhlnaaDoorPx0
import Derived.Test.YtcfhmbhlibhlnaaDoorPxe24
import Derived.Test.YtcfhmbhlibhlnaaDoorPxf25
import Derived.Test.YtcfhmbhlibhlnaaDoorPxf30
import Derived.Test.YtcfhmbhlibhlnaaDoorPxf29
import Derived.Test.YtcfhmbhlibhlnaaDoorPxf52
namespace Go.Proofs.YtcfhmbhlibhlnaaDoor.P
open Go.RowKit Go.Proofs.YtcfhmbhlibhlnaaDoorW.PrintWords Go.Proofs.YtcfhmbhlibhlnaaDoorW.PrintLast Go.Proofs.YtcfhmbhlibhlnaaDoorW.PrintMore Go.Proofs.YtcfhmbhlibhlnaaDoor.Mine
attribute [local go_sem] ext71 ext79 eqA61 eqA62
attribute [local go_sem] max2_int min2_int max_two min_two max_three min_three max_four min_four   -- for this text's walks alone
set_option linter.unusedVariables false
set_option linter.unusedSimpArgs false

attribute [local go_sem high] eqA24
/-! ### tumblerlaw01_WideBack: function 16 -/
def tumblerlaw01_WideBack.f (k : Nat) (a0_0 : Int) (a0_1 : Int) (a1_0 : Int) (a1_1 : Int) : Option (Bool) := (wide_Print.f k a0_0 a0_1).bind fun t918 => ((wide_Parse.f k t918).bind fun bt919 => (if bt919.2.2 = 0 then (if (bt919.1 == a0_0 && (bt919.2.1 == a0_1)) = true then ((wide_Print.f k a1_0 a1_1).bind fun t923 => (if ((t918.toList == t923.toList) == (a0_0 == a1_0 && (a0_1 == a1_1))) = true then ((wide_Cmp.f a0_0 a0_1 a1_0 a1_1).bind fun t924 => (if ((t924 == 0) == (a0_0 == a1_0 && (a0_1 == a1_1))) = true then ((tumblerlaw01_alive.f k).bind fun t925 => (some t925)) else (some false))) else (some false))) else (some false)) else (some false)))
theorem tumblerlaw01_WideBack.mono : ∀ a0 a1 a2 a3 k, LeO (tumblerlaw01_WideBack.f k a0 a1 a2 a3) (tumblerlaw01_WideBack.f (k + 1) a0 a1 a2 a3) := by
 intro a0 a1 a2 a3 k
 unfold tumblerlaw01_WideBack.f
 repeat' first
  | (with_reducible exact tumblerlaw01_alive.mono _)
  | (with_reducible exact wide_Parse.mono _ _)
  | (with_reducible exact wide_Print.mono _ _ _)
  | (with_reducible exact LeO.refl _)
  | (with_reducible exact LeO.none _)
  | (with_reducible refine LeO.ite ?_ ?_)
  | (with_reducible refine LeO.bind ?_ (fun _ => ?_))
  | exact tumblerlaw01_alive.mono _
  | exact wide_Parse.mono _ _
  | exact wide_Print.mono _ _ _
  | exact LeO.none _
  | refine LeO.ite ?_ ?_
  | refine LeO.bind ?_ (fun _ => ?_)
def tumblerlaw01_WideBack.T3 : Bool × List (List Nat × List Nat) := (true, [([], []), ([0], [0]), ([1], [1]), ([2], [2]), ([2], [2]), ([3, 4, 2], [2, 3, 4]), ([2, 5], [2, 5]), ([6, 2], [6]), ([7], [7]), ([7], [7]), ([9, 7, 7], [7, 9]), ([8, 10, 7], [7, 8, 10]), ([7], [7]), ([7], [7]), ([12, 13, 7], [7, 12, 13]), ([11, 14, 7], [7, 11, 14]), ([7, 15], [7, 15]), ([16, 10], [16]), ([17], [17]), ([17], [17]), ([18, 19, 17, 17], [17, 18, 19]), ([20, 17], [17, 20]), ([17], [17]), ([17], [17]), ([22, 23, 17], [17, 22, 23]), ([21, 24, 17], [17, 21, 24]), ([17, 25], [17, 25]), ([26, 20], [26]), ([27, 27], [27]), ([27, 28], [27, 28]), ([29, 28, 0, 1, 2, 3, 4, 5, 6, 7, 8, 9, 10, 11, 12, 13, 14, 15, 16, 17, 18, 19, 20, 21, 22, 23, 24, 25, 26, 27, 28, 29], [29])])
def tumblerlaw01_WideBack.B3 : List Nat := [0, 1, 3, 7, 7, 31, 63, 127, 255, 255, 767, 2047, 255, 255, 12543, 32767, 65535, 131071, 262143, 262143, 1048575, 2097151, 262143, 262143, 12845055, 33554431, 67108863, 134217727, 268435455, 536870911, 1073741823]
theorem tumblerlaw01_WideBack.tab3 : rtab .any (opsOf Tryd.f16 3) = tumblerlaw01_WideBack.T3 := by kernel_rfl
theorem tumblerlaw01_WideBack.bits3 : waitsOk tumblerlaw01_WideBack.T3.2 tumblerlaw01_WideBack.B3 = true := by kernel_rfl
set_option maxHeartbeats 8000000 in
set_option maxRecDepth 100000 in
theorem tumblerlaw01_WideBack.calls (k : Nat) (a0_0 : Int) (a0_1 : Int) (a1_0 : Int) (a1_1 : Int) (r : Bool) (w : World) (hT : Aside0 (WF w)) (hr_ : Aside0 (r = true)) (h : tumblerlaw01_WideBack.f k a0_0 a0_1 a1_0 a1_1 = some r) :
 Calls Tryd.prog 16 #[.agg #[.int .i64 a0_0, .int .u64 a0_1], .agg #[.int .i64 a1_0, .int .u64 a1_1]] w fun e w' => e = .returned (.bool r) ∧ Below w.heap.size w w' := by
 have hu24 := Tryd.underlying24; have HB := am (Below.refl w.heap.size w); have H : ((wide_Print.f k a0_0 a0_1).bind fun t918 => ((wide_Parse.f k t918).bind fun bt919 => (if bt919.2.2 = 0 then (if (bt919.1 == a0_0 && (bt919.2.1 == a0_1)) = true then ((wide_Print.f k a1_0 a1_1).bind fun t923 => (if ((t918.toList == t923.toList) == (a0_0 == a1_0 && (a0_1 == a1_1))) = true then ((wide_Cmp.f a0_0 a0_1 a1_0 a1_1).bind fun t924 => (if ((t924 == 0) == (a0_0 == a1_0 && (a0_1 == a1_1))) = true then ((tumblerlaw01_alive.f k).bind fun t925 => (some t925)) else (some false))) else (some false))) else (some false)) else (some false)))) = some r := h; clear h
 replace H := Option.bind_eq_some_iff.mp H
 obtain ⟨t918, A30, H⟩ := H
 replace H : ((wide_Parse.f k t918).bind fun bt919 => (if bt919.2.2 = 0 then (if (bt919.1 == a0_0 && (bt919.2.1 == a0_1)) = true then ((wide_Print.f k a1_0 a1_1).bind fun t923 => (if ((t918.toList == t923.toList) == (a0_0 == a1_0 && (a0_1 == a1_1))) = true then ((wide_Cmp.f a0_0 a0_1 a1_0 a1_1).bind fun t924 => (if ((t924 == 0) == (a0_0 == a1_0 && (a0_1 == a1_1))) = true then ((tumblerlaw01_alive.f k).bind fun t925 => (some t925)) else (some false))) else (some false))) else (some false)) else (some false))) = some r := H
 have A3 := Aside0.mk A30; clear A30
 replace H := Option.bind_eq_some_iff.mp H
 obtain ⟨⟨t919, t920, t921⟩, A40, H⟩ := H
 replace H : (if t921 = 0 then (if (t919 == a0_0 && (t920 == a0_1)) = true then ((wide_Print.f k a1_0 a1_1).bind fun t923 => (if ((t918.toList == t923.toList) == (a0_0 == a1_0 && (a0_1 == a1_1))) = true then ((wide_Cmp.f a0_0 a0_1 a1_0 a1_1).bind fun t924 => (if ((t924 == 0) == (a0_0 == a1_0 && (a0_1 == a1_1))) = true then ((tumblerlaw01_alive.f k).bind fun t925 => (some t925)) else (some false))) else (some false))) else (some false)) else (some false)) = some r := H
 have A4 := Aside0.mk A40; clear A40
 by_cases c5 : t921 = 0
 · rw [if_pos c5] at H
   have c5b0 : (t921 == 0) = true := beq_iff_eq.mpr c5; have c5b1 : (t921 != 0) = false := bne_eq_false_iff_eq.mpr c5; clear c5
   by_cases c6 : (t919 == a0_0 && (t920 == a0_1)) = true
   · rw [if_pos c6] at H
     have c6b0 : (t919 == a0_0 && (t920 == a0_1)) = true := c6; (try (have c6b1 : decide (t919 = a0_0 && (t920 == a0_1)) = true := by simpa using c6)); (try (have c6b2 : (t919 == a0_0 && (t920 == a0_1)) = true := by simpa using c6)); clear c6
     replace H := Option.bind_eq_some_iff.mp H
     obtain ⟨t923, A70, H⟩ := H
     replace H : (if ((t918.toList == t923.toList) == (a0_0 == a1_0 && (a0_1 == a1_1))) = true then ((wide_Cmp.f a0_0 a0_1 a1_0 a1_1).bind fun t924 => (if ((t924 == 0) == (a0_0 == a1_0 && (a0_1 == a1_1))) = true then ((tumblerlaw01_alive.f k).bind fun t925 => (some t925)) else (some false))) else (some false)) = some r := H
     have A7 := Aside0.mk A70; clear A70
     by_cases c8 : ((t918.toList == t923.toList) == (a0_0 == a1_0 && (a0_1 == a1_1))) = true
     · rw [if_pos c8] at H
       have c8b0 : ((t918.toList == t923.toList) == (a0_0 == a1_0 && (a0_1 == a1_1))) = true := c8; (try (have c8b1 : decide ((t918.toList == t923.toList) = (a0_0 == a1_0 && (a0_1 == a1_1))) = true := by simpa using c8)); (try (have c8b2 : ((t918.toList == t923.toList) == (a0_0 == a1_0 && (a0_1 == a1_1))) = true := by simpa using c8)); clear c8
       replace H := Option.bind_eq_some_iff.mp H
       obtain ⟨t924, A90, H⟩ := H
       replace H : (if ((t924 == 0) == (a0_0 == a1_0 && (a0_1 == a1_1))) = true then ((tumblerlaw01_alive.f k).bind fun t925 => (some t925)) else (some false)) = some r := H
       have A9 := Aside0.mk A90; clear A90
       by_cases c10 : ((t924 == 0) == (a0_0 == a1_0 && (a0_1 == a1_1))) = true
       · rw [if_pos c10] at H
         have c10b0 : ((t924 == 0) == (a0_0 == a1_0 && (a0_1 == a1_1))) = true := c10; (try (have c10b1 : decide ((t924 == 0) = (a0_0 == a1_0 && (a0_1 == a1_1))) = true := by simpa using c10)); (try (have c10b2 : ((t924 == 0) == (a0_0 == a1_0 && (a0_1 == a1_1))) = true := by simpa using c10)); clear c10
         replace H := Option.bind_eq_some_iff.mp H
         obtain ⟨t925, A110, H⟩ := H
         replace H : (some t925) = some r := H
         have A11 := Aside0.mk A110; clear A110
         obtain rfl := Option.some.inj H
         go_enter Tryd.func16, Tryd.ntmps16
         try go_wp2_with (first | ((with_reducible refine gate_dst (N := 2) rfl ?_); refine box_event ?hg (N := 2) ?hd (cs := #[.int .i64 a0_0, .int .u64 a0_1]) (t := 24) ?hr ?_; (case hd => rfl); (case hg => rfl); (case hr => first | (go_simp; done) | (go_simp; rfl)); intro gb916 hg w12 hbox hb; have n0_ := am (below_step bz hb); have n1_ := am (hbox); have n2_ := am ((by rw [hg]; exact (below_size bz) : w.heap.size ≤ gb916)); have n3_ := am ((by rw [hg]; exact (below_size bz) : w.heap.size ≤ gb916)); clear HB; have HB := n0_; have BK916 := n1_; have GW916 := n2_; have GE916 := n3_; clear n0_ n1_ n2_ n3_; clear hb hbox hg) | ((with_reducible refine gate_dst (N := 3) rfl ?_); refine box_event ?hg (N := 3) ?hd (cs := #[.int .i64 a1_0, .int .u64 a1_1]) (t := 24) ?hr ?_; (case hd => rfl); (case hg => rfl); (case hr => first | (go_simp; done) | (go_simp; rfl)); intro gb917 hg w13 hbox hb; have n0_ := am (bb BK916 hb); have n1_ := am (below_step bz hb); have n2_ := am (hbox); have n3_ := am ((by rw [hg]; exact (below_size bz) : w.heap.size ≤ gb917)); have n4_ := am ((by rw [hg]; exact (below_size bz) : w.heap.size ≤ gb917)); have n5_ := am ((by rw [hg]; exact Nat.ne_of_lt (bl BK916) : gb916 ≠ gb917)); have n6_ := am ((by rw [hg]; exact Nat.ne_of_gt (bl BK916) : gb917 ≠ gb916)); clear BK916; clear HB; have BK916 := n0_; have HB := n1_; have BK917 := n2_; have GW917 := n3_; have GE917 := n4_; have NB916_917 := n5_; have NB917_916 := n6_; clear n0_ n1_ n2_ n3_ n4_ n5_ n6_; clear hb hbox hg; have hnb14 := NB916_917.out; have hnc14 := NB917_916.out; have hcz15_0 : w13.cell? ⟨gb916, 0, none⟩ = some (.int .i64 a0_0) := (blk_cell BK916.out 0).trans rfl; have hcz15_1 : w13.cell? ⟨gb916, 1, none⟩ = some (.int .u64 a0_1) := (blk_cell BK916.out 1).trans rfl; have hfz15_0 := blk_frozen BK916.out 0; have hfz15_1 := blk_frozen BK916.out 1) | ((with_reducible refine gate_callee (f := 25) rfl ?_); refine goesL_ (some 9) rfl rfl Tryd.func25 (by kernel_rfl) rfl #[.agg #[.int .i64 a0_0, .int .u64 a0_1]] rfl (by (try simp only [List.map_toArray, List.map_cons, List.map_nil]); first | done | rfl | (simp only [List.length_drop, List.length_take]; rfl)) ?_; (with_reducible refine (wide_Print.calls k a0_0 a0_1 t918 _ (tN hT) A3.out).mono ?_); rintro e w16 ⟨rfl, hb⟩; refine ⟨_, rfl, ?_⟩; have n0_ := am (bb BK916 hb); have n1_ := am (bb BK917 hb); have n2_ := am (below_step bz hb); clear BK916; clear BK917; clear HB; have BK916 := n0_; have BK917 := n1_; have HB := n2_; clear n0_ n1_ n2_; (try clear hb); (try clear hb2); (try clear hk); (try clear hi)) | ((with_reducible refine gate_callee (f := 52) rfl ?_); refine goesL_ (some 12) rfl rfl Tryd.func52 (by kernel_rfl) rfl #[.string t918] rfl (by (try simp only [List.map_toArray, List.map_cons, List.map_nil]); first | done | rfl | (simp only [List.length_drop, List.length_take]; rfl)) ?_; (with_reducible refine (wide_Parse.calls k t918 t919 t920 t921 _ A4.out).mono ?_); rintro e w17 ⟨rfl, hb⟩; refine ⟨_, rfl, ?_⟩; have n0_ := am (bb BK916 hb); have n1_ := am (bb BK917 hb); have n2_ := am (below_step bz hb); clear BK916; clear BK917; clear HB; have BK916 := n0_; have BK917 := n1_; have HB := n2_; clear n0_ n1_ n2_; (try clear hb); (try clear hb2); (try clear hk); (try clear hi)) | ((with_reducible refine gate_dst (N := 6) rfl ?_); refine box_event ?hg (N := 6) ?hd (cs := #[.int .i64 0, .int .u64 0]) (t := 24) ?hr ?_; (case hd => rfl); (case hg => rfl); (case hr => first | (go_simp; done) | (go_simp; rfl)); intro gb922 hg w18 hbox hb; have n0_ := am (bb BK916 hb); have n1_ := am (bb BK917 hb); have n2_ := am (below_step bz hb); have n3_ := am (hbox); have n4_ := am ((by rw [hg]; exact (below_size bz) : w.heap.size ≤ gb922)); have n5_ := am ((by rw [hg]; exact (below_size bz) : w.heap.size ≤ gb922)); have n6_ := am ((by rw [hg]; exact Nat.ne_of_lt (bl BK916) : gb916 ≠ gb922)); have n7_ := am ((by rw [hg]; exact Nat.ne_of_gt (bl BK916) : gb922 ≠ gb916)); have n8_ := am ((by rw [hg]; exact Nat.ne_of_lt (bl BK917) : gb917 ≠ gb922)); have n9_ := am ((by rw [hg]; exact Nat.ne_of_gt (bl BK917) : gb922 ≠ gb917)); clear BK916; clear BK917; clear HB; have BK916 := n0_; have BK917 := n1_; have HB := n2_; have BK922 := n3_; have GW922 := n4_; have GE922 := n5_; have NB916_922 := n6_; have NB922_916 := n7_; have NB917_922 := n8_; have NB922_917 := n9_; clear n0_ n1_ n2_ n3_ n4_ n5_ n6_ n7_ n8_ n9_; clear hb hbox hg; have hnb19 := NB922_916.out; have hnc19 := NB916_922.out; have hnb20 := NB922_917.out; have hnc20 := NB917_922.out; have hcz21_0 : w18.cell? ⟨gb922, 0, none⟩ = some (.int .i64 0) := (blk_cell BK922.out 0).trans rfl; have hcz21_1 : w18.cell? ⟨gb922, 1, none⟩ = some (.int .u64 0) := (blk_cell BK922.out 1).trans rfl; have hfz21_0 := blk_frozen BK922.out 0; have hfz21_1 := blk_frozen BK922.out 1))
         have n0_ : Aside0 (((w18.setCell ⟨gb922, 0, none⟩ (.int .i64 t919)).setCell ⟨gb922, 1, none⟩ (.int .u64 t920)).heap[gb916]? = some (.cells #[.int .i64 a0_0, .int .u64 a0_1] 24 (0, 0))) := ⟨by (with_reducible repeat (first | apply bA | apply bB | apply bC)); refine blk_far ?_ NB916_922.out _; (with_reducible repeat (first | apply bA | apply bB | apply bC)); refine blk_far ?_ NB916_922.out _; (with_reducible repeat (first | apply bA | apply bB | apply bC)); exact BK916.out⟩; have n1_ : Aside0 (((w18.setCell ⟨gb922, 0, none⟩ (.int .i64 t919)).setCell ⟨gb922, 1, none⟩ (.int .u64 t920)).heap[gb917]? = some (.cells #[.int .i64 a1_0, .int .u64 a1_1] 24 (0, 0))) := ⟨by (with_reducible repeat (first | apply bA | apply bB | apply bC)); refine blk_far ?_ NB917_922.out _; (with_reducible repeat (first | apply bA | apply bB | apply bC)); refine blk_far ?_ NB917_922.out _; (with_reducible repeat (first | apply bA | apply bB | apply bC)); exact BK917.out⟩; have n2_ : Aside0 (((w18.setCell ⟨gb922, 0, none⟩ (.int .i64 t919)).setCell ⟨gb922, 1, none⟩ (.int .u64 t920)).heap[gb922]? = some (.cells #[.int .i64 t919, .int .u64 t920] 24 (0, 0))) := ⟨by (with_reducible repeat (first | apply bA | apply bB | apply bC)); refine blk_put (cs := #[.int .i64 t919, .int .u64 0]) ?_ 1 _ rfl; (with_reducible repeat (first | apply bA | apply bB | apply bC)); refine blk_put (cs := #[.int .i64 0, .int .u64 0]) ?_ 0 _ rfl; (with_reducible repeat (first | apply bA | apply bB | apply bC)); exact BK922.out⟩; have n3_ : Aside0 (Below w.heap.size w ((w18.setCell ⟨gb922, 0, none⟩ (.int .i64 t919)).setCell ⟨gb922, 1, none⟩ (.int .u64 t920))) := ⟨by repeat (first | (with_reducible first | exact HB.out | apply dA | apply dB | apply dC | refine dE ?_ ‹_›) | exact HB.out)⟩; (try clear BK916); (try clear BK917); (try clear BK922); (try clear HB); generalize ((w18.setCell ⟨gb922, 0, none⟩ (.int .i64 t919)).setCell ⟨gb922, 1, none⟩ (.int .u64 t920)) = w22 at n0_ n1_ n2_ n3_ ⊢; have BK916 := n0_; have BK917 := n1_; have BK922 := n2_; have HB := n3_; clear n0_ n1_ n2_ n3_; have n0_ := am (blk_drew BK916.out); have n1_ := am (blk_drew BK917.out); have n2_ := am (blk_drew BK922.out); have n3_ := am (below_drew1 HB.out); clear BK916 BK917 BK922 HB; have BK916 := n0_; have BK917 := n1_; have BK922 := n2_; have HB := n3_; clear n0_ n1_ n2_ n3_
         refine start_ (n := 31) (S := fun w' => w'.cell? ⟨gb922, 0, none⟩ = some (.int .i64 t919) ∧ w'.cell? ⟨gb922, 1, none⟩ = some (.int .u64 t920) ∧ w'.cell? ⟨gb916, 0, none⟩ = some (.int .i64 a0_0) ∧ w'.cell? ⟨gb916, 1, none⟩ = some (.int .u64 a0_1) ∧ w'.cell? ⟨gb917, 0, none⟩ = some (.int .i64 a1_0) ∧ w'.cell? ⟨gb917, 1, none⟩ = some (.int .u64 a1_1)) (ds := []) #[false, false, false, false, false, false, false, false, false, false, false, false, false, false, false, false, false, false, false, false, false, false, false, false, false, false, false, false, false, false, false] (by kernel_rfl) rfl rfl ⟨(blk_cell BK922.out 0).trans rfl, (blk_cell BK922.out 1).trans rfl, (blk_cell BK916.out 0).trans rfl, (blk_cell BK916.out 1).trans rfl, (blk_cell BK917.out 0).trans rfl, (blk_cell BK917.out 1).trans rfl⟩ (fun hHeld => ?_); refine with_tabW tumblerlaw01_WideBack.tab3 tumblerlaw01_WideBack.bits3 (fun HT_ HW_ => ?_)
         generalize w22.drew = w23 at BK916 BK917 BK922 HB hHeld ⊢
         refine pure_ (i := 0) (N := some 15) (v := ?_) (a' := ?_) #[true, false, false, false, false, false, false, false, false, false, false, false, false, false, false, false, false, false, false, false, false, false, false, false, false, false, false, false, false, false, false] rfl rfl (any_of HT_.out (by kernel_rfl)) (fun _ _ _ h => h) (Or.inl ⟨by rfl, ?_⟩) ?_ ?_
         rotate_left
         · intro w'
           go_simp
           with_reducible rfl
         rotate_left
         · simp only [Act.put, List.setIfInBounds_toArray, List.set_cons_zero, List.set_cons_succ, i64_w, i32_w]
           rfl
         refine pure_ (i := 1) (N := some 16) (v := ?_) (a' := ?_) #[true, true, false, false, false, false, false, false, false, false, false, false, false, false, false, false, false, false, false, false, false, false, false, false, false, false, false, false, false, false, false] rfl rfl (any_of HT_.out (by kernel_rfl)) (fun _ _ _ h => h) (Or.inl ⟨by rfl, ?_⟩) ?_ ?_
         rotate_left
         · intro w'
           go_simp
           with_reducible rfl
         rotate_left
         · simp only [Act.put, List.setIfInBounds_toArray, List.set_cons_zero, List.set_cons_succ, i64_w, i32_w]
           rfl
         refine pure_ (i := 2) (N := some 17) (v := ?_) (a' := ?_) #[true, true, true, false, false, false, false, false, false, false, false, false, false, false, false, false, false, false, false, false, false, false, false, false, false, false, false, false, false, false, false] rfl rfl (any_of HT_.out (by kernel_rfl)) (fun _ _ _ h => h) (Or.inl ⟨by rfl, ?_⟩) ?_ ?_
         rotate_left
         · intro w'
           go_simp
           with_reducible rfl
         rotate_left
         · simp only [Act.put, List.setIfInBounds_toArray, List.set_cons_zero, List.set_cons_succ, i64_w, i32_w]
           rfl
         refine take_ (i := 3) (N := some 18) (v := ?_) (a' := ?_) #[true, true, true, true, false, false, false, false, false, false, false, false, false, false, false, false, false, false, false, false, false, false, false, false, false, false, false, false, false, false, false] rfl rfl (take_ofW HT_.out HW_.out (by kernel_rfl)) (fun _ _ _ h => h) (Or.inl ⟨by rfl, ?_⟩) hHeld ?_ ?_
         rotate_left
         · rintro w' ⟨s0, s1, s2, s3, s4, s5⟩
           go_simp
           with_reducible rfl
         rotate_left
         · simp only [Act.put, List.setIfInBounds_toArray, List.set_cons_zero, List.set_cons_succ, i64_w, i32_w]
           rfl
         refine take_ (i := 4) (N := some 19) (v := ?_) (a' := ?_) #[true, true, true, true, true, false, false, false, false, false, false, false, false, false, false, false, false, false, false, false, false, false, false, false, false, false, false, false, false, false, false] rfl rfl (take_ofW HT_.out HW_.out (by kernel_rfl)) (fun _ _ _ h => h) (Or.inl ⟨by rfl, ?_⟩) hHeld ?_ ?_
         rotate_left
         · rintro w' ⟨s0, s1, s2, s3, s4, s5⟩
           go_simp
           with_reducible rfl
         rotate_left
         · simp only [Act.put, List.setIfInBounds_toArray, List.set_cons_zero, List.set_cons_succ, i64_w, i32_w]
           rfl
         refine pure_ (i := 5) (N := some 20) (v := ?_) (a' := ?_) #[true, true, true, true, true, true, false, false, false, false, false, false, false, false, false, false, false, false, false, false, false, false, false, false, false, false, false, false, false, false, false] rfl rfl (any_of HT_.out (by kernel_rfl)) (fun _ _ _ h => h) (Or.inl ⟨by rfl, ?_⟩) ?_ ?_
         rotate_left
         · intro w'
           go_simp
           with_reducible rfl
         rotate_left
         · simp only [Act.put, List.setIfInBounds_toArray, List.set_cons_zero, List.set_cons_succ, i64_w, i32_w]
           rfl
         refine pure_ (i := 6) (N := some 21) (v := ?_) (a' := ?_) #[true, true, true, true, true, true, true, false, false, false, false, false, false, false, false, false, false, false, false, false, false, false, false, false, false, false, false, false, false, false, false] rfl rfl (any_of HT_.out (by kernel_rfl)) (fun _ _ _ h => h) (Or.inl ⟨by rfl, ?_⟩) ?_ ?_
         rotate_left
         · intro w'
           go_simp
           with_reducible rfl
         rotate_left
         · simp only [Act.put, List.setIfInBounds_toArray, List.set_cons_zero, List.set_cons_succ, i64_w, i32_w]
           rfl
         refine pure_ (i := 7) (N := some 22) (v := ?_) (a' := ?_) #[true, true, true, true, true, true, true, true, false, false, false, false, false, false, false, false, false, false, false, false, false, false, false, false, false, false, false, false, false, false, false] rfl rfl (any_of HT_.out (by kernel_rfl)) (fun _ _ _ h => h) (Or.inl ⟨by rfl, ?_⟩) ?_ ?_
         rotate_left
         · intro w'
           go_simp
           with_reducible rfl
         rotate_left
         · simp only [Act.put, List.setIfInBounds_toArray, List.set_cons_zero, List.set_cons_succ, i64_w, i32_w]
           rfl
         refine pure_ (i := 8) (N := some 23) (v := ?_) (a' := ?_) #[true, true, true, true, true, true, true, true, true, false, false, false, false, false, false, false, false, false, false, false, false, false, false, false, false, false, false, false, false, false, false] rfl rfl (any_of HT_.out (by kernel_rfl)) (fun _ _ _ h => h) (Or.inl ⟨by rfl, ?_⟩) ?_ ?_
         rotate_left
         · intro w'
           go_simp
           with_reducible rfl
         rotate_left
         · simp only [Act.put, List.setIfInBounds_toArray, List.set_cons_zero, List.set_cons_succ, i64_w, i32_w]
           rfl
         refine take_ (i := 9) (N := some 24) (v := ?_) (a' := ?_) #[true, true, true, true, true, true, true, true, true, true, false, false, false, false, false, false, false, false, false, false, false, false, false, false, false, false, false, false, false, false, false] rfl rfl (take_ofW HT_.out HW_.out (by kernel_rfl)) (fun _ _ _ h => h) (Or.inl ⟨by rfl, ?_⟩) hHeld ?_ ?_
         rotate_left
         · rintro w' ⟨s0, s1, s2, s3, s4, s5⟩
           go_simp
           with_reducible rfl
         rotate_left
         · simp only [Act.put, List.setIfInBounds_toArray, List.set_cons_zero, List.set_cons_succ, i64_w, i32_w]
           rfl
         refine take_ (i := 12) (N := some 27) (v := ?_) (a' := ?_) #[true, true, true, true, true, true, true, true, true, true, false, false, true, false, false, false, false, false, false, false, false, false, false, false, false, false, false, false, false, false, false] rfl rfl (take_ofW HT_.out HW_.out (by kernel_rfl)) (fun _ _ _ h => h) (Or.inl ⟨by rfl, ?_⟩) hHeld ?_ ?_
         rotate_left
         · rintro w' ⟨s0, s1, s2, s3, s4, s5⟩
           go_simp
           with_reducible rfl
         rotate_left
         · simp only [Act.put, List.setIfInBounds_toArray, List.set_cons_zero, List.set_cons_succ, i64_w, i32_w]
           rfl
         refine take_ (i := 13) (N := some 28) (v := ?_) (a' := ?_) #[true, true, true, true, true, true, true, true, true, true, false, false, true, true, false, false, false, false, false, false, false, false, false, false, false, false, false, false, false, false, false] rfl rfl (take_ofW HT_.out HW_.out (by kernel_rfl)) (fun _ _ _ h => h) (Or.inl ⟨by rfl, ?_⟩) hHeld ?_ ?_
         rotate_left
         · rintro w' ⟨s0, s1, s2, s3, s4, s5⟩
           go_simp
           with_reducible rfl
         rotate_left
         · simp only [Act.put, List.setIfInBounds_toArray, List.set_cons_zero, List.set_cons_succ, i64_w, i32_w]
           rfl
         refine pure_ (i := 14) (N := some 29) (v := ?_) (a' := ?_) #[true, true, true, true, true, true, true, true, true, true, false, false, true, true, true, false, false, false, false, false, false, false, false, false, false, false, false, false, false, false, false] rfl rfl (any_of HT_.out (by kernel_rfl)) (fun _ _ _ h => h) (Or.inl ⟨by rfl, ?_⟩) ?_ ?_
         rotate_left
         · intro w'
           go_simp
           with_reducible rfl
         rotate_left
         · simp only [Act.put, List.setIfInBounds_toArray, List.set_cons_zero, List.set_cons_succ, i64_w, i32_w]
           rfl
         refine one_ (i := 10) (N := some 25) #[true, true, true, true, true, true, true, true, true, true, true, false, true, true, true, false, false, false, false, false, false, false, false, false, false, false, false, false, false, false, false] rfl rfl (one_of HT_.out (by kernel_rfl)) (by decide) (fun K hK => ?_)
         refine goes_ Tryd.func25 (by kernel_rfl) rfl #[.agg #[.int .i64 a1_0, .int .u64 a1_1]] (by rfl) rfl rfl (by (try simp only [List.map_toArray, List.map_cons, List.map_nil]); first | done | rfl | (simp only [List.length_drop, List.length_take]; rfl)) ?_
         with_reducible refine (wide_Print.calls k a1_0 a1_1 t923 _ (tN hT) A7.out).mono ?_
         rintro e w24 ⟨rfl, hb⟩; refine ⟨_, rfl, ?_⟩; have n0_ := am (bb BK916 hb); have n1_ := am (bb BK917 hb); have n2_ := am (bb BK922 hb); have n3_ := am (below_step bz hb); clear BK916 BK917 BK922 HB; have BK916 := n0_; have BK917 := n1_; have BK922 := n2_; have HB := n3_; clear n0_ n1_ n2_ n3_; (try clear hb); (try clear hb2); (try clear hk); (try clear hi)
         refine hK.out _ _ ⟨(blk_cell BK922.out 0).trans rfl, (blk_cell BK922.out 1).trans rfl, (blk_cell BK916.out 0).trans rfl, (blk_cell BK916.out 1).trans rfl, (blk_cell BK917.out 0).trans rfl, (blk_cell BK917.out 1).trans rfl⟩ (fun hHeld => ?_)
         clear hK K
         refine norm_ (a' := ?_) ?_ ?_
         rotate_left
         · show Act.put _ (some 25) _ = _
           simp only [Act.put, List.setIfInBounds_toArray, List.set_cons_zero, List.set_cons_succ, i64_w, i32_w]
           rfl
         refine pure_ (i := 11) (N := some 26) (v := ?_) (a' := ?_) #[true, true, true, true, true, true, true, true, true, true, true, true, true, true, true, false, false, false, false, false, false, false, false, false, false, false, false, false, false, false, false] rfl rfl (any_of HT_.out (by kernel_rfl)) (fun _ _ _ h => h) (Or.inl ⟨by rfl, ?_⟩) ?_ ?_
         rotate_left
         · intro w'
           go_simp
           with_reducible rfl
         rotate_left
         · simp only [Act.put, List.setIfInBounds_toArray, List.set_cons_zero, List.set_cons_succ, i64_w, i32_w]
           rfl
         refine pure_ (i := 15) (N := some 30) (v := ?_) (a' := ?_) #[true, true, true, true, true, true, true, true, true, true, true, true, true, true, true, true, false, false, false, false, false, false, false, false, false, false, false, false, false, false, false] rfl rfl (any_of HT_.out (by kernel_rfl)) (fun _ _ _ h => h) (Or.inl ⟨by rfl, ?_⟩) ?_ ?_
         rotate_left
         · intro w'
           go_simp
           with_reducible rfl
         rotate_left
         · simp only [Act.put, List.setIfInBounds_toArray, List.set_cons_zero, List.set_cons_succ, i64_w, i32_w]
           rfl
         refine pure_ (i := 16) (N := some 31) (v := ?_) (a' := ?_) #[true, true, true, true, true, true, true, true, true, true, true, true, true, true, true, true, true, false, false, false, false, false, false, false, false, false, false, false, false, false, false] rfl rfl (any_of HT_.out (by kernel_rfl)) (fun _ _ _ h => h) (Or.inl ⟨by rfl, ?_⟩) ?_ ?_
         rotate_left
         · intro w'
           go_simp
           with_reducible rfl
         rotate_left
         · simp only [Act.put, List.setIfInBounds_toArray, List.set_cons_zero, List.set_cons_succ, i64_w, i32_w]
           rfl
         refine pure_ (i := 17) (N := some 32) (v := ?_) (a' := ?_) #[true, true, true, true, true, true, true, true, true, true, true, true, true, true, true, true, true, true, false, false, false, false, false, false, false, false, false, false, false, false, false] rfl rfl (any_of HT_.out (by kernel_rfl)) (fun _ _ _ h => h) (Or.inl ⟨by rfl, ?_⟩) ?_ ?_
         rotate_left
         · intro w'
           go_simp
           with_reducible rfl
         rotate_left
         · simp only [Act.put, List.setIfInBounds_toArray, List.set_cons_zero, List.set_cons_succ, i64_w, i32_w]
           rfl
         refine take_ (i := 18) (N := some 33) (v := ?_) (a' := ?_) #[true, true, true, true, true, true, true, true, true, true, true, true, true, true, true, true, true, true, true, false, false, false, false, false, false, false, false, false, false, false, false] rfl rfl (take_ofW HT_.out HW_.out (by kernel_rfl)) (fun _ _ _ h => h) (Or.inl ⟨by rfl, ?_⟩) hHeld ?_ ?_
         rotate_left
         · rintro w' ⟨s0, s1, s2, s3, s4, s5⟩
           go_simp
           with_reducible rfl
         rotate_left
         · simp only [Act.put, List.setIfInBounds_toArray, List.set_cons_zero, List.set_cons_succ, i64_w, i32_w]
           rfl
         refine take_ (i := 19) (N := some 34) (v := ?_) (a' := ?_) #[true, true, true, true, true, true, true, true, true, true, true, true, true, true, true, true, true, true, true, true, false, false, false, false, false, false, false, false, false, false, false] rfl rfl (take_ofW HT_.out HW_.out (by kernel_rfl)) (fun _ _ _ h => h) (Or.inl ⟨by rfl, ?_⟩) hHeld ?_ ?_
         rotate_left
         · rintro w' ⟨s0, s1, s2, s3, s4, s5⟩
           go_simp
           with_reducible rfl
         rotate_left
         · simp only [Act.put, List.setIfInBounds_toArray, List.set_cons_zero, List.set_cons_succ, i64_w, i32_w]
           rfl
         refine take_ (i := 22) (N := some 37) (v := ?_) (a' := ?_) #[true, true, true, true, true, true, true, true, true, true, true, true, true, true, true, true, true, true, true, true, false, false, true, false, false, false, false, false, false, false, false] rfl rfl (take_ofW HT_.out HW_.out (by kernel_rfl)) (fun _ _ _ h => h) (Or.inl ⟨by rfl, ?_⟩) hHeld ?_ ?_
         rotate_left
         · rintro w' ⟨s0, s1, s2, s3, s4, s5⟩
           go_simp
           with_reducible rfl
         rotate_left
         · simp only [Act.put, List.setIfInBounds_toArray, List.set_cons_zero, List.set_cons_succ, i64_w, i32_w]
           rfl
         refine take_ (i := 23) (N := some 38) (v := ?_) (a' := ?_) #[true, true, true, true, true, true, true, true, true, true, true, true, true, true, true, true, true, true, true, true, false, false, true, true, false, false, false, false, false, false, false] rfl rfl (take_ofW HT_.out HW_.out (by kernel_rfl)) (fun _ _ _ h => h) (Or.inl ⟨by rfl, ?_⟩) hHeld ?_ ?_
         rotate_left
         · rintro w' ⟨s0, s1, s2, s3, s4, s5⟩
           go_simp
           with_reducible rfl
         rotate_left
         · simp only [Act.put, List.setIfInBounds_toArray, List.set_cons_zero, List.set_cons_succ, i64_w, i32_w]
           rfl
         refine pure_ (i := 24) (N := some 39) (v := ?_) (a' := ?_) #[true, true, true, true, true, true, true, true, true, true, true, true, true, true, true, true, true, true, true, true, false, false, true, true, true, false, false, false, false, false, false] rfl rfl (any_of HT_.out (by kernel_rfl)) (fun _ _ _ h => h) (Or.inl ⟨by rfl, ?_⟩) ?_ ?_
         rotate_left
         · intro w'
           go_simp
           with_reducible rfl
         rotate_left
         · simp only [Act.put, List.setIfInBounds_toArray, List.set_cons_zero, List.set_cons_succ, i64_w, i32_w]
           rfl
         refine one_ (i := 20) (N := some 35) #[true, true, true, true, true, true, true, true, true, true, true, true, true, true, true, true, true, true, true, true, true, false, true, true, true, false, false, false, false, false, false] rfl rfl (one_of HT_.out (by kernel_rfl)) (by decide) (fun K hK => ?_)
         refine goes_ Tryd.func30 (by kernel_rfl) rfl #[.agg #[.int .i64 a0_0, .int .u64 a0_1], .agg #[.int .i64 a1_0, .int .u64 a1_1]] (by rfl) rfl rfl (by (try simp only [List.map_toArray, List.map_cons, List.map_nil]); first | done | rfl | (simp only [List.length_drop, List.length_take]; rfl)) ?_
         with_reducible refine (wide_Cmp.calls a0_0 a0_1 a1_0 a1_1 t924 _ A9.out).mono ?_
         rintro e w25 ⟨rfl, hb⟩; refine ⟨_, rfl, ?_⟩; have n0_ := am (bb BK916 hb); have n1_ := am (bb BK917 hb); have n2_ := am (bb BK922 hb); have n3_ := am (below_step bz hb); clear BK916 BK917 BK922 HB; have BK916 := n0_; have BK917 := n1_; have BK922 := n2_; have HB := n3_; clear n0_ n1_ n2_ n3_; (try clear hb); (try clear hb2); (try clear hk); (try clear hi)
         refine hK.out _ _ ⟨(blk_cell BK922.out 0).trans rfl, (blk_cell BK922.out 1).trans rfl, (blk_cell BK916.out 0).trans rfl, (blk_cell BK916.out 1).trans rfl, (blk_cell BK917.out 0).trans rfl, (blk_cell BK917.out 1).trans rfl⟩ (fun hHeld => ?_)
         clear hK K
         refine norm_ (a' := ?_) ?_ ?_
         rotate_left
         · show Act.put _ (some 35) _ = _
           simp only [Act.put, List.setIfInBounds_toArray, List.set_cons_zero, List.set_cons_succ, i64_w, i32_w]
           rfl
         refine pure_ (i := 21) (N := some 36) (v := ?_) (a' := ?_) #[true, true, true, true, true, true, true, true, true, true, true, true, true, true, true, true, true, true, true, true, true, true, true, true, true, false, false, false, false, false, false] rfl rfl (any_of HT_.out (by kernel_rfl)) (fun _ _ _ h => h) (Or.inl ⟨by rfl, ?_⟩) ?_ ?_
         rotate_left
         · intro w'
           go_simp
           with_reducible rfl
         rotate_left
         · simp only [Act.put, List.setIfInBounds_toArray, List.set_cons_zero, List.set_cons_succ, i64_w, i32_w]
           rfl
         refine pure_ (i := 25) (N := some 40) (v := ?_) (a' := ?_) #[true, true, true, true, true, true, true, true, true, true, true, true, true, true, true, true, true, true, true, true, true, true, true, true, true, true, false, false, false, false, false] rfl rfl (any_of HT_.out (by kernel_rfl)) (fun _ _ _ h => h) (Or.inl ⟨by rfl, ?_⟩) ?_ ?_
         rotate_left
         · intro w'
           go_simp
           with_reducible rfl
         rotate_left
         · simp only [Act.put, List.setIfInBounds_toArray, List.set_cons_zero, List.set_cons_succ, i64_w, i32_w]
           rfl
         refine pure_ (i := 26) (N := some 41) (v := ?_) (a' := ?_) #[true, true, true, true, true, true, true, true, true, true, true, true, true, true, true, true, true, true, true, true, true, true, true, true, true, true, true, false, false, false, false] rfl rfl (any_of HT_.out (by kernel_rfl)) (fun _ _ _ h => h) (Or.inl ⟨by rfl, ?_⟩) ?_ ?_
         rotate_left
         · intro w'
           go_simp
           with_reducible rfl
         rotate_left
         · simp only [Act.put, List.setIfInBounds_toArray, List.set_cons_zero, List.set_cons_succ, i64_w, i32_w]
           rfl
         refine pure_ (i := 27) (N := some 42) (v := ?_) (a' := ?_) #[true, true, true, true, true, true, true, true, true, true, true, true, true, true, true, true, true, true, true, true, true, true, true, true, true, true, true, true, false, false, false] rfl rfl (any_of HT_.out (by kernel_rfl)) (fun _ _ _ h => h) (Or.inl ⟨by rfl, ?_⟩) ?_ ?_
         rotate_left
         · intro w'
           go_simp
           with_reducible rfl
         rotate_left
         · simp only [Act.put, List.setIfInBounds_toArray, List.set_cons_zero, List.set_cons_succ, i64_w, i32_w]
           rfl
         refine one_ (i := 28) (N := some 43) #[true, true, true, true, true, true, true, true, true, true, true, true, true, true, true, true, true, true, true, true, true, true, true, true, true, true, true, true, true, false, false] rfl rfl (one_of HT_.out (by kernel_rfl)) (by decide) (fun K hK => ?_)
         refine goes_ Tryd.func29 (by kernel_rfl) rfl #[] (by rfl) rfl rfl (by (try simp only [List.map_toArray, List.map_cons, List.map_nil]); first | done | rfl | (simp only [List.length_drop, List.length_take]; rfl)) ?_
         with_reducible refine (tumblerlaw01_alive.calls k  t925 _ (tN hT) A11.out).mono ?_
         rintro e w26 ⟨rfl, hb⟩; refine ⟨_, rfl, ?_⟩; have n0_ := am (bb BK916 hb); have n1_ := am (bb BK917 hb); have n2_ := am (bb BK922 hb); have n3_ := am (below_step bz hb); clear BK916 BK917 BK922 HB; have BK916 := n0_; have BK917 := n1_; have BK922 := n2_; have HB := n3_; clear n0_ n1_ n2_ n3_; (try clear hb); (try clear hb2); (try clear hk); (try clear hi)
         refine hK.out _ _ ⟨(blk_cell BK922.out 0).trans rfl, (blk_cell BK922.out 1).trans rfl, (blk_cell BK916.out 0).trans rfl, (blk_cell BK916.out 1).trans rfl, (blk_cell BK917.out 0).trans rfl, (blk_cell BK917.out 1).trans rfl⟩ (fun hHeld => ?_)
         clear hK K
         refine norm_ (a' := ?_) ?_ ?_
         rotate_left
         · show Act.put _ (some 43) _ = _
           simp only [Act.put, List.setIfInBounds_toArray, List.set_cons_zero, List.set_cons_succ, i64_w, i32_w]
           rfl
         refine pure_ (i := 29) (N := some 44) (v := ?_) (a' := ?_) #[true, true, true, true, true, true, true, true, true, true, true, true, true, true, true, true, true, true, true, true, true, true, true, true, true, true, true, true, true, true, false] rfl rfl (any_of HT_.out (by kernel_rfl)) (fun _ _ _ h => h) (Or.inl ⟨by rfl, ?_⟩) ?_ ?_
         rotate_left
         · intro w'
           go_simp
           with_reducible rfl
         rotate_left
         · simp only [Act.put, List.setIfInBounds_toArray, List.set_cons_zero, List.set_cons_succ, i64_w, i32_w]
           rfl
         refine pure_ (i := 30) (N := some 4) (v := ?_) (a' := ?_) #[true, true, true, true, true, true, true, true, true, true, true, true, true, true, true, true, true, true, true, true, true, true, true, true, true, true, true, true, true, true, true] rfl rfl (any_of HT_.out (by kernel_rfl)) (fun _ _ _ h => h) (Or.inl ⟨by rfl, ?_⟩) ?_ ?_
         rotate_left
         · intro w'
           go_simp
           with_reducible rfl
         rotate_left
         · simp only [Act.put, List.setIfInBounds_toArray, List.set_cons_zero, List.set_cons_succ, i64_w, i32_w]
           rfl
         refine done_ (done_of HT_.out (by kernel_rfl)) ?_
         try go_wp2
         go_ret
         exact ⟨by first | rfl | (simp [errW_none, errW_some] <;> rfl) | (simp [*, errW_none, errW_some] <;> rfl), by repeat (first | (with_reducible first | exact HB.out | apply dA | apply dB | apply dC | refine dE ?_ ‹_›) | exact HB.out)⟩
       · rw [if_neg c10] at H
         have c10b0 : ((t924 == 0) == (a0_0 == a1_0 && (a0_1 == a1_1))) = false := by simpa using c10
         (try (have c10b1 : decide ((t924 == 0) = (a0_0 == a1_0 && (a0_1 == a1_1))) = false := by simpa using c10)); (try (have c10b2 : ((t924 == 0) == (a0_0 == a1_0 && (a0_1 == a1_1))) = false := by simpa using c10)); (try (have c10b3 : ¬ ((t924 == 0) = (a0_0 == a1_0 && (a0_1 == a1_1))) := by simpa using c10)); clear c10
         exact Bool.noConfusion ((Option.some.inj H).trans hr_.out)
     · rw [if_neg c8] at H
       have c8b0 : ((t918.toList == t923.toList) == (a0_0 == a1_0 && (a0_1 == a1_1))) = false := by simpa using c8
       (try (have c8b1 : decide ((t918.toList == t923.toList) = (a0_0 == a1_0 && (a0_1 == a1_1))) = false := by simpa using c8)); (try (have c8b2 : ((t918.toList == t923.toList) == (a0_0 == a1_0 && (a0_1 == a1_1))) = false := by simpa using c8)); (try (have c8b3 : ¬ ((t918.toList == t923.toList) = (a0_0 == a1_0 && (a0_1 == a1_1))) := by simpa using c8)); clear c8
       exact Bool.noConfusion ((Option.some.inj H).trans hr_.out)
   · rw [if_neg c6] at H
     have c6b0 : (t919 == a0_0 && (t920 == a0_1)) = false := by simpa using c6
     (try (have c6b1 : decide (t919 = a0_0 && (t920 == a0_1)) = false := by simpa using c6)); (try (have c6b2 : (t919 == a0_0 && (t920 == a0_1)) = false := by simpa using c6)); (try (have c6b3 : ¬ (t919 = a0_0 && (t920 == a0_1)) := by simpa using c6)); clear c6
     exact Bool.noConfusion ((Option.some.inj H).trans hr_.out)
 · rw [if_neg c5] at H
   have c5b0 : (t921 == 0) = false := beq_eq_false_iff_ne.mpr c5; have c5b1 : (t921 != 0) = true := bne_iff_ne.mpr c5
   exact Bool.noConfusion ((Option.some.inj H).trans hr_.out)

/-- THE ONE PURE STATEMENT of tumblerlaw01_WideBack: yours. -/
def tumblerlaw01_WideBack.Pure : Prop := ∀ (a0_0 : Int) (a0_1 : Int) (a1_0 : Int) (a1_1 : Int), (Lit.int .i64 a0_0).wf = true → (Lit.int .u64 a0_1).wf = true → (Lit.int .i64 a1_0).wf = true → (Lit.int .u64 a1_1).wf = true → ∃ k, tumblerlaw01_WideBack.f k a0_0 a0_1 a1_0 a1_1 = some true
theorem tumblerlaw01_WideBack.walk (P : tumblerlaw01_WideBack.Pure) (a0_0 : Int) (a0_1 : Int) (a1_0 : Int) (a1_1 : Int) (w : World) (hT : Aside0 (WF w)) (w0_0 : (Lit.int .i64 a0_0).wf = true) (w0_1 : (Lit.int .u64 a0_1).wf = true) (w1_0 : (Lit.int .i64 a1_0).wf = true) (w1_1 : (Lit.int .u64 a1_1).wf = true) :
 Calls Tryd.prog 16 #[.agg #[.int .i64 a0_0, .int .u64 a0_1], .agg #[.int .i64 a1_0, .int .u64 a1_1]] w fun e w' => e = .returned (.bool true) ∧ Below w.heap.size w w' := by
 obtain ⟨k, h⟩ := P a0_0 a0_1 a1_0 a1_1 w0_0 w0_1 w1_0 w1_1
 refine (tumblerlaw01_WideBack.calls k a0_0 a0_1 a1_0 a1_1 true w hT ⟨rfl⟩ h).mono ?_
 rintro e w' ⟨rfl, hd⟩
 exact ⟨rfl, hd⟩

end Go.Proofs.YtcfhmbhlibhlnaaDoor.P
