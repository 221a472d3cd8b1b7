-- Printed by this session's own pp.py (wip/tool) out of the translation.
import Derived.Test.YtcfhmbhlibhlnaaDoorPx0
import Derived.Test.YtcfhmbhlibhlnaaDoorPxf89
import Derived.Test.YtcfhmbhlibhlnaaDoorPxf90
namespace Go.Proofs.YtcfhmbhlibhlnaaDoor.P
open Go.RowKit Go.Proofs.YtcfhmbhlibhlnaaDoorW.PrintWords Go.Proofs.YtcfhmbhlibhlnaaDoorW.PrintLast Go.Proofs.YtcfhmbhlibhlnaaDoorW.PrintMore Go.Proofs.YtcfhmbhlibhlnaaDoor.Mine
attribute [local go_sem] ext71 ext79 eqA61 eqA62
attribute [local go_sem] max2_int min2_int max_two min_two max_three min_three max_four min_four   -- for this text's walks alone
set_option linter.unusedVariables false
set_option linter.unusedSimpArgs false

/-! ### tumblerref02_Print: function 57 -/
def tumblerref02_Print.f (k : Nat) (a0 : Int) : Option (ByteArray) := (tumblerref02_Of.f a0).bind fun bt1001 => ((tumblerref02_Text.f k bt1001.1 bt1001.2.1 bt1001.2.2.1 bt1001.2.2.2).bind fun t1006 => (some t1006))
theorem tumblerref02_Print.mono : ∀ a0 k, LeO (tumblerref02_Print.f k a0) (tumblerref02_Print.f (k + 1) a0) := by
 intro a0 k
 unfold tumblerref02_Print.f
 repeat' first
  | (with_reducible exact tumblerref02_Text.mono _ _ _ _ _)
  | (with_reducible exact LeO.refl _)
  | (with_reducible exact LeO.none _)
  | (with_reducible refine LeO.ite ?_ ?_)
  | (with_reducible refine LeO.bind ?_ (fun _ => ?_))
  | exact tumblerref02_Text.mono _ _ _ _ _
  | exact LeO.none _
  | refine LeO.ite ?_ ?_
  | refine LeO.bind ?_ (fun _ => ?_)
set_option maxHeartbeats 8000000 in
set_option maxRecDepth 100000 in
theorem tumblerref02_Print.calls (k : Nat) (a0 : Int) (r : ByteArray) (w : World) (h : tumblerref02_Print.f k a0 = some r) :
 Calls Tryd.prog 57 #[.int .i64 a0] w fun e w' => e = .returned (.string r) ∧ Below w.heap.size w w' := by
 have hu93 := Tryd.underlying93; have HB := am (Below.refl w.heap.size w); have H : ((tumblerref02_Of.f a0).bind fun bt1001 => ((tumblerref02_Text.f k bt1001.1 bt1001.2.1 bt1001.2.2.1 bt1001.2.2.2).bind fun t1006 => (some t1006))) = some r := h; clear h
 replace H := Option.bind_eq_some_iff.mp H
 obtain ⟨⟨t1001, t1002, t1003, t1004⟩, A20, H⟩ := H
 replace H : ((tumblerref02_Text.f k t1001 t1002 t1003 t1004).bind fun t1006 => (some t1006)) = some r := H
 have A2 := Aside0.mk A20; clear A20
 replace H := Option.bind_eq_some_iff.mp H
 obtain ⟨t1006, A30, H⟩ := H
 replace H : (some t1006) = some r := H
 have A3 := Aside0.mk A30; clear A30
 obtain rfl := Option.some.inj H
 go_enter Tryd.func57, Tryd.ntmps57
 go_wp2_with (first | ((with_reducible refine gate_callee (f := 90) rfl ?_); refine goesL_ (some 7) rfl rfl Tryd.func90 (by kernel_rfl) rfl #[.int .i64 a0] rfl (by (try simp only [List.map_toArray, List.map_cons, List.map_nil]); first | done | rfl | (simp only [List.length_drop, List.length_take]; rfl)) ?_; (with_reducible refine (tumblerref02_Of.calls a0 t1001 t1002 t1003 t1004 _ A2.out).mono ?_); rintro e w4 ⟨rfl, hb⟩; refine ⟨_, rfl, ?_⟩; have n0_ := am (below_step bz hb); clear HB; have HB := n0_; clear n0_; (try clear hb); (try clear hb2); (try clear hk); (try clear hi)) | ((with_reducible refine gate_dst (N := 3) rfl ?_); refine box_event ?hg (N := 3) ?hd (cs := #[.int .u64 0, .int .u64 0, .bool false]) (t := 93) ?hr ?_; (case hd => rfl); (case hg => rfl); (case hr => first | (go_simp; done) | (go_simp; rfl)); intro gb1005 hg w5 hbox hb; have n0_ := am (below_step bz hb); have n1_ := am (hbox); have n2_ := am ((by rw [hg]; exact (below_size bz) : w.heap.size ≤ gb1005)); have n3_ := am ((by rw [hg]; exact (below_size bz) : w.heap.size ≤ gb1005)); clear HB; have HB := n0_; have BK1005 := n1_; have GW1005 := n2_; have GE1005 := n3_; clear n0_ n1_ n2_ n3_; clear hb hbox hg; have hcz6_0 : w5.cell? ⟨gb1005, 0, none⟩ = some (.int .u64 0) := (blk_cell BK1005.out 0).trans rfl; have hcz6_1 : w5.cell? ⟨gb1005, 1, none⟩ = some (.int .u64 0) := (blk_cell BK1005.out 1).trans rfl; have hcz6_2 : w5.cell? ⟨gb1005, 2, none⟩ = some (.bool false) := (blk_cell BK1005.out 2).trans rfl; have hfz6_0 := blk_frozen BK1005.out 0; have hfz6_1 := blk_frozen BK1005.out 1; have hfz6_2 := blk_frozen BK1005.out 2) | ((with_reducible refine gate_callee (f := 89) rfl ?_); refine goesL_ (some 12) rfl rfl Tryd.func89 (by kernel_rfl) rfl #[.agg #[.int .u64 t1001, .int .u64 t1002, .bool t1003], .bool t1004] rfl (by (try simp only [List.map_toArray, List.map_cons, List.map_nil]); first | done | rfl | (simp only [List.length_drop, List.length_take]; rfl)) ?_; (with_reducible refine (tumblerref02_Text.calls k t1001 t1002 t1003 t1004 t1006 _ A3.out).mono ?_); rintro e w7 ⟨rfl, hb⟩; refine ⟨_, rfl, ?_⟩; have n0_ := am (blk_below (g := gb1005) (o := .cells #[.int .u64 t1001, .int .u64 t1002, .bool t1003] 93 (0, 0)) (by (with_reducible repeat (first | apply bA | apply bB | apply bC)); refine blk_put (cs := #[.int .u64 t1001, .int .u64 t1002, .bool false]) ?_ 2 _ rfl; (with_reducible repeat (first | apply bA | apply bB | apply bC)); refine blk_put (cs := #[.int .u64 t1001, .int .u64 0, .bool false]) ?_ 1 _ rfl; (with_reducible repeat (first | apply bA | apply bB | apply bC)); refine blk_put (cs := #[.int .u64 0, .int .u64 0, .bool false]) ?_ 0 _ rfl; (with_reducible repeat (first | apply bA | apply bB | apply bC)); exact BK1005.out) hb); have n1_ := am (below_step bz hb); clear BK1005; clear HB; have BK1005 := n0_; have HB := n1_; clear n0_ n1_; (try clear hb); (try clear hb2); (try clear hk); (try clear hi)))
 go_ret
 exact ⟨by first | rfl | (simp [errW_none, errW_some] <;> rfl) | (simp [*, errW_none, errW_some] <;> rfl), by repeat (first | (with_reducible first | exact HB.out | apply dA | apply dB | apply dC | refine dE ?_ ‹_›) | exact HB.out)⟩

end Go.Proofs.YtcfhmbhlibhlnaaDoor.P
