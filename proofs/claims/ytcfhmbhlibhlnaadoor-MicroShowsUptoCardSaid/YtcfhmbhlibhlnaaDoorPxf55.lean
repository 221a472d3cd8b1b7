-- Printed by this session's own pp.py (wip/tool) out of the translation.
import Derived.Test.YtcfhmbhlibhlnaaDoorPx0
import Derived.Test.YtcfhmbhlibhlnaaDoorPxf88
import Derived.Test.YtcfhmbhlibhlnaaDoorPxf89
namespace Go.Proofs.YtcfhmbhlibhlnaaDoor.P
open Go.RowKit Go.Proofs.YtcfhmbhlibhlnaaDoorW.PrintWords Go.Proofs.YtcfhmbhlibhlnaaDoorW.PrintLast Go.Proofs.YtcfhmbhlibhlnaaDoorW.PrintMore Go.Proofs.YtcfhmbhlibhlnaaDoor.Mine
attribute [local go_sem] ext71 ext79 eqA61 eqA62
attribute [local go_sem] max2_int min2_int max_two min_two max_three min_three max_four min_four   -- for this text's walks alone
set_option linter.unusedVariables false
set_option linter.unusedSimpArgs false

/-! ### tumblerref02_Show: function 55 -/
def tumblerref02_Show.f (k : Nat) (a0_0 : Int) (a0_1 : Int) : Option (ByteArray) := (tumblerref02_Amount.f a0_0 a0_1).bind fun bt988 => ((tumblerref02_Text.f k bt988.1 bt988.2.1 bt988.2.2.1 bt988.2.2.2).bind fun t993 => (some t993))
theorem tumblerref02_Show.mono : ∀ a0 a1 k, LeO (tumblerref02_Show.f k a0 a1) (tumblerref02_Show.f (k + 1) a0 a1) := by
 intro a0 a1 k
 unfold tumblerref02_Show.f
 repeat' first
  | (with_reducible exact tumblerref02_Text.mono _ _ _ _ _)
  | (with_reducible exact LeO.refl _)
  | (with_reducible exact LeO.none _)
  | (with_reducible refine LeO.ite ?_ ?_)
  | (with_reducible refine LeO.bind ?_ (fun _ => ?_))
  | exact tumblerref02_Text.mono _ _ _ _ _
  | exact LeO.none _
  | refine LeO.ite ?_ ?_
  | refine LeO.bind ?_ (fun _ => ?_)
set_option maxHeartbeats 8000000 in
set_option maxRecDepth 100000 in
theorem tumblerref02_Show.calls (k : Nat) (a0_0 : Int) (a0_1 : Int) (r : ByteArray) (w : World) (h : tumblerref02_Show.f k a0_0 a0_1 = some r) :
 Calls Tryd.prog 55 #[.agg #[.int .i64 a0_0, .int .u64 a0_1]] w fun e w' => e = .returned (.string r) ∧ Below w.heap.size w w' := by
 have hu24 := Tryd.underlying24; have hu93 := Tryd.underlying93; have HB := am (Below.refl w.heap.size w); have H : ((tumblerref02_Amount.f a0_0 a0_1).bind fun bt988 => ((tumblerref02_Text.f k bt988.1 bt988.2.1 bt988.2.2.1 bt988.2.2.2).bind fun t993 => (some t993))) = some r := h; clear h
 replace H := Option.bind_eq_some_iff.mp H
 obtain ⟨⟨t988, t989, t990, t991⟩, A20, H⟩ := H
 replace H : ((tumblerref02_Text.f k t988 t989 t990 t991).bind fun t993 => (some t993)) = some r := H
 have A2 := Aside0.mk A20; clear A20
 replace H := Option.bind_eq_some_iff.mp H
 obtain ⟨t993, A30, H⟩ := H
 replace H : (some t993) = some r := H
 have A3 := Aside0.mk A30; clear A30
 obtain rfl := Option.some.inj H
 go_enter Tryd.func55, Tryd.ntmps55
 go_wp2_with (first | ((with_reducible refine gate_dst (N := 1) rfl ?_); refine box_event ?hg (N := 1) ?hd (cs := #[.int .i64 a0_0, .int .u64 a0_1]) (t := 24) ?hr ?_; (case hd => rfl); (case hg => rfl); (case hr => first | (go_simp; done) | (go_simp; rfl)); intro gb987 hg w4 hbox hb; have n0_ := am (below_step bz hb); have n1_ := am (hbox); have n2_ := am ((by rw [hg]; exact (below_size bz) : w.heap.size ≤ gb987)); have n3_ := am ((by rw [hg]; exact (below_size bz) : w.heap.size ≤ gb987)); clear HB; have HB := n0_; have BK987 := n1_; have GW987 := n2_; have GE987 := n3_; clear n0_ n1_ n2_ n3_; clear hb hbox hg; have hcz5_0 : w4.cell? ⟨gb987, 0, none⟩ = some (.int .i64 a0_0) := (blk_cell BK987.out 0).trans rfl; have hcz5_1 : w4.cell? ⟨gb987, 1, none⟩ = some (.int .u64 a0_1) := (blk_cell BK987.out 1).trans rfl; have hfz5_0 := blk_frozen BK987.out 0; have hfz5_1 := blk_frozen BK987.out 1) | ((with_reducible refine gate_callee (f := 88) rfl ?_); refine goesL_ (some 7) rfl rfl Tryd.func88 (by kernel_rfl) rfl #[.agg #[.int .i64 a0_0, .int .u64 a0_1]] rfl (by (try simp only [List.map_toArray, List.map_cons, List.map_nil]); first | done | rfl | (simp only [List.length_drop, List.length_take]; rfl)) ?_; (with_reducible refine (tumblerref02_Amount.calls a0_0 a0_1 t988 t989 t990 t991 _ A2.out).mono ?_); rintro e w6 ⟨rfl, hb⟩; refine ⟨_, rfl, ?_⟩; have n0_ := am (bb BK987 hb); have n1_ := am (below_step bz hb); clear BK987; clear HB; have BK987 := n0_; have HB := n1_; clear n0_ n1_; (try clear hb); (try clear hb2); (try clear hk); (try clear hi)) | ((with_reducible refine gate_dst (N := 3) rfl ?_); refine box_event ?hg (N := 3) ?hd (cs := #[.int .u64 0, .int .u64 0, .bool false]) (t := 93) ?hr ?_; (case hd => rfl); (case hg => rfl); (case hr => first | (go_simp; done) | (go_simp; rfl)); intro gb992 hg w7 hbox hb; have n0_ := am (bb BK987 hb); have n1_ := am (below_step bz hb); have n2_ := am (hbox); have n3_ := am ((by rw [hg]; exact (below_size bz) : w.heap.size ≤ gb992)); have n4_ := am ((by rw [hg]; exact (below_size bz) : w.heap.size ≤ gb992)); have n5_ := am ((by rw [hg]; exact Nat.ne_of_lt (bl BK987) : gb987 ≠ gb992)); have n6_ := am ((by rw [hg]; exact Nat.ne_of_gt (bl BK987) : gb992 ≠ gb987)); clear BK987; clear HB; have BK987 := n0_; have HB := n1_; have BK992 := n2_; have GW992 := n3_; have GE992 := n4_; have NB987_992 := n5_; have NB992_987 := n6_; clear n0_ n1_ n2_ n3_ n4_ n5_ n6_; clear hb hbox hg; have hnb8 := NB992_987.out; have hnc8 := NB987_992.out; have hcz9_0 : w7.cell? ⟨gb992, 0, none⟩ = some (.int .u64 0) := (blk_cell BK992.out 0).trans rfl; have hcz9_1 : w7.cell? ⟨gb992, 1, none⟩ = some (.int .u64 0) := (blk_cell BK992.out 1).trans rfl; have hcz9_2 : w7.cell? ⟨gb992, 2, none⟩ = some (.bool false) := (blk_cell BK992.out 2).trans rfl; have hfz9_0 := blk_frozen BK992.out 0; have hfz9_1 := blk_frozen BK992.out 1; have hfz9_2 := blk_frozen BK992.out 2) | ((with_reducible refine gate_callee (f := 89) rfl ?_); refine goesL_ (some 12) rfl rfl Tryd.func89 (by kernel_rfl) rfl #[.agg #[.int .u64 t988, .int .u64 t989, .bool t990], .bool t991] rfl (by (try simp only [List.map_toArray, List.map_cons, List.map_nil]); first | done | rfl | (simp only [List.length_drop, List.length_take]; rfl)) ?_; (with_reducible refine (tumblerref02_Text.calls k t988 t989 t990 t991 t993 _ A3.out).mono ?_); rintro e w10 ⟨rfl, hb⟩; refine ⟨_, rfl, ?_⟩; have n0_ := am (blk_below (g := gb987) (o := .cells #[.int .i64 a0_0, .int .u64 a0_1] 24 (0, 0)) (by (with_reducible repeat (first | apply bA | apply bB | apply bC)); refine blk_far ?_ NB987_992.out _; (with_reducible repeat (first | apply bA | apply bB | apply bC)); refine blk_far ?_ NB987_992.out _; (with_reducible repeat (first | apply bA | apply bB | apply bC)); refine blk_far ?_ NB987_992.out _; (with_reducible repeat (first | apply bA | apply bB | apply bC)); exact BK987.out) hb); have n1_ := am (blk_below (g := gb992) (o := .cells #[.int .u64 t988, .int .u64 t989, .bool t990] 93 (0, 0)) (by (with_reducible repeat (first | apply bA | apply bB | apply bC)); refine blk_put (cs := #[.int .u64 t988, .int .u64 t989, .bool false]) ?_ 2 _ rfl; (with_reducible repeat (first | apply bA | apply bB | apply bC)); refine blk_put (cs := #[.int .u64 t988, .int .u64 0, .bool false]) ?_ 1 _ rfl; (with_reducible repeat (first | apply bA | apply bB | apply bC)); refine blk_put (cs := #[.int .u64 0, .int .u64 0, .bool false]) ?_ 0 _ rfl; (with_reducible repeat (first | apply bA | apply bB | apply bC)); exact BK992.out) hb); have n2_ := am (below_step bz hb); clear BK987; clear BK992; clear HB; have BK987 := n0_; have BK992 := n1_; have HB := n2_; clear n0_ n1_ n2_; (try clear hb); (try clear hb2); (try clear hk); (try clear hi)))
 go_ret
 exact ⟨by first | rfl | (simp [errW_none, errW_some] <;> rfl) | (simp [*, errW_none, errW_some] <;> rfl), by repeat (first | (with_reducible first | exact HB.out | apply dA | apply dB | apply dC | refine dE ?_ ‹_›) | exact HB.out)⟩

end Go.Proofs.YtcfhmbhlibhlnaaDoor.P
