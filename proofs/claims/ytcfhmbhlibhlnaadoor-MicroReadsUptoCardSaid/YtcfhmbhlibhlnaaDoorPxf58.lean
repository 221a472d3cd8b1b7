-- Printed by this session's own pp.py (wip/tool) out of the translation.
import Derived.Test.YtcfhmbhlibhlnaaDoorPx0
import Derived.Test.YtcfhmbhlibhlnaaDoorPxf91
import Derived.Test.YtcfhmbhlibhlnaaDoorPxf92
namespace Go.Proofs.YtcfhmbhlibhlnaaDoor.P
open Go.RowKit Go.Proofs.YtcfhmbhlibhlnaaDoorW.PrintWords Go.Proofs.YtcfhmbhlibhlnaaDoorW.PrintLast Go.Proofs.YtcfhmbhlibhlnaaDoorW.PrintMore Go.Proofs.YtcfhmbhlibhlnaaDoor.Mine
attribute [local go_sem] ext71 ext79 eqA61 eqA62
attribute [local go_sem] max2_int min2_int max_two min_two max_three min_three max_four min_four   -- for this text's walks alone
set_option linter.unusedVariables false
set_option linter.unusedSimpArgs false

/-! ### micro_Read: function 58 -/
def micro_Read.f (k : Nat) (a0 : ByteArray) : Option (Int × Int × Int) := (micro_read.f a0).bind fun bt1035 => (if bt1035.2.2.2 = true then (if bt1035.2.2.1 > 6 then (some (0, 0, 21)) else ((micro_decimal_worth.f k bt1035.1 bt1035.2.1 bt1035.2.2.1).bind fun bt1040 => (some (bt1040.1, bt1040.2.1, bt1040.2.2)))) else (some (0, 0, 20)))
theorem micro_Read.mono : ∀ a0 k, LeO (micro_Read.f k a0) (micro_Read.f (k + 1) a0) := by
 intro a0 k
 unfold micro_Read.f
 repeat' first
  | (with_reducible exact micro_decimal_worth.mono _ _ _ _)
  | (with_reducible exact LeO.refl _)
  | (with_reducible exact LeO.none _)
  | (with_reducible refine LeO.ite ?_ ?_)
  | (with_reducible refine LeO.bind ?_ (fun _ => ?_))
  | exact micro_decimal_worth.mono _ _ _ _
  | exact LeO.none _
  | refine LeO.ite ?_ ?_
  | refine LeO.bind ?_ (fun _ => ?_)
set_option maxHeartbeats 8000000 in
set_option maxRecDepth 100000 in
theorem micro_Read.calls (k : Nat) (a0 : ByteArray) (r1 : Int) (r2 : Int) (r3 : Int) (w : World) (h : micro_Read.f k a0 = some (r1, r2, r3)) :
 Calls Tryd.prog 58 #[.string a0] w fun e w' => e = .returned (.tuple #[.agg #[.int .i64 r1, .int .u64 r2], .int .i64 r3]) ∧ Below w.heap.size w w' := by
 have hu24 := Tryd.underlying24; have hu99 := Tryd.underlying99; have HB := am (Below.refl w.heap.size w); have H : ((micro_read.f a0).bind fun bt1035 => (if bt1035.2.2.2 = true then (if bt1035.2.2.1 > 6 then (some (0, 0, 21)) else ((micro_decimal_worth.f k bt1035.1 bt1035.2.1 bt1035.2.2.1).bind fun bt1040 => (some (bt1040.1, bt1040.2.1, bt1040.2.2)))) else (some (0, 0, 20)))) = some (r1, r2, r3) := h; clear h
 replace H := Option.bind_eq_some_iff.mp H
 obtain ⟨⟨t1035, t1036, t1037, t1038⟩, A20, H⟩ := H
 replace H : (if t1038 = true then (if t1037 > 6 then (some (0, 0, 21)) else ((micro_decimal_worth.f k t1035 t1036 t1037).bind fun bt1040 => (some (bt1040.1, bt1040.2.1, bt1040.2.2)))) else (some (0, 0, 20))) = some (r1, r2, r3) := H
 have A2 := Aside0.mk A20; clear A20
 by_cases c3 : t1038 = true
 · subst c3
   have H1 : (if t1037 > 6 then (some (0, 0, 21)) else ((micro_decimal_worth.f k t1035 t1036 t1037).bind fun bt1040 => (some (bt1040.1, bt1040.2.1, bt1040.2.2)))) = some (r1, r2, r3) := by rw [if_pos rfl] at H; exact H
   clear H; have H := H1; clear H1
   by_cases c4 : t1037 > 6
   · rw [if_pos c4] at H
     have c4b0 : decide (6 < t1037) = true := decide_eq_true c4; clear c4
     simp only [Option.some.injEq, Prod.mk.injEq] at H
     obtain ⟨rfl, rfl, rfl⟩ := H
     go_enter Tryd.func58, Tryd.ntmps58
     go_wp2_with (first | ((with_reducible refine gate_dst (N := 2) rfl ?_); refine box_event (by rfl) (N := 2) (by rfl) (cs := #[.int .i64 0, .int .u64 0]) (t := 24) (by go_simp <;> rfl) ?_; intro gb1034 hg w5 hbox hb; have BK1034 := am (hbox); have GW1034 := gw w hg; replace HB := am (below_step bz hb); clear hb hbox hg) | ((with_reducible refine gate_callee (f := 91) rfl ?_); refine goesL_ (some 8) rfl rfl Tryd.func91 (by kernel_rfl) rfl #[.string a0] rfl rf ?_; (with_reducible refine (micro_read.calls a0 t1035 t1036 t1037 true _ A2.out).mono ?_); rintro e w6 ⟨rfl, hb⟩; refine ⟨_, rfl, ?_⟩; replace BK1034 := am (bb BK1034 hb); replace HB := am (below_step bz hb); (try clear hb); (try clear hb2); (try clear hk); (try clear hi)) | ((with_reducible refine gate_dst (N := 4) rfl ?_); refine box_event (by rfl) (N := 4) (by rfl) (cs := #[.bool false, .string (⟨#[]⟩ : ByteArray), .int .i64 0]) (t := 99) (by go_simp <;> rfl) ?_; intro gb1039 hg w7 hbox hb; have BK1039 := am (hbox); have GW1039 := gw w hg; replace HB := am (below_step bz hb); have NB1034_1039 := nl BK1034 hg; have NB1039_1034 := nr BK1034 hg; replace BK1034 := am (bb BK1034 hb); clear hb hbox hg; have hnb8 := NB1039_1034.out; have hnc8 := NB1034_1039.out; have hcz9_0 : w7.cell? ⟨gb1039, 0, none⟩ = some (.bool false) := bc BK1039 0; have hcz9_1 : w7.cell? ⟨gb1039, 1, none⟩ = some (.string (⟨#[]⟩ : ByteArray)) := bc BK1039 1; have hcz9_2 : w7.cell? ⟨gb1039, 2, none⟩ = some (.int .i64 0) := bc BK1039 2; have hfz9_0 := blk_frozen BK1039.out 0; have hfz9_1 := blk_frozen BK1039.out 1; have hfz9_2 := blk_frozen BK1039.out 2; have hcz10_0 : w7.cell? ⟨gb1034, 0, none⟩ = some (.int .i64 0) := bc BK1034 0; have hcz10_1 : w7.cell? ⟨gb1034, 1, none⟩ = some (.int .u64 0) := bc BK1034 1; have hfz10_0 := blk_frozen BK1034.out 0; have hfz10_1 := blk_frozen BK1034.out 1))
     refine bodyPost_ret (results_ct rfl _ _ gb1034 24 #[.int .i64 0, .int .u64 0] (0, 0) _ rfl (blk_put (blk_put (blk_far (blk_far (blk_far BK1034.out NB1034_1039.out _) NB1034_1039.out _) NB1034_1039.out _) 0 _ rfl) 1 _ rfl) Tryd.underlying24 rfl (by kernel_rfl)) rfl ?_
     exact ⟨rg, bz⟩
   · rw [if_neg c4] at H
     have c4b0 : decide (6 < t1037) = false := decide_eq_false c4; clear c4
     replace H := Option.bind_eq_some_iff.mp H
     obtain ⟨⟨t1040, t1041, t1042⟩, A110, H⟩ := H
     replace H : (some (t1040, t1041, t1042)) = some (r1, r2, r3) := H
     have A11 := Aside0.mk A110; clear A110
     simp only [Option.some.injEq, Prod.mk.injEq] at H
     obtain ⟨rfl, rfl, rfl⟩ := H
     go_enter Tryd.func58, Tryd.ntmps58
     go_wp2_with (first | ((with_reducible refine gate_dst (N := 2) rfl ?_); refine box_event (by rfl) (N := 2) (by rfl) (cs := #[.int .i64 0, .int .u64 0]) (t := 24) (by go_simp <;> rfl) ?_; intro gb1034 hg w12 hbox hb; have BK1034 := am (hbox); have GW1034 := gw w hg; replace HB := am (below_step bz hb); clear hb hbox hg) | ((with_reducible refine gate_callee (f := 91) rfl ?_); refine goesL_ (some 8) rfl rfl Tryd.func91 (by kernel_rfl) rfl #[.string a0] rfl rf ?_; (with_reducible refine (micro_read.calls a0 t1035 t1036 t1037 true _ A2.out).mono ?_); rintro e w13 ⟨rfl, hb⟩; refine ⟨_, rfl, ?_⟩; replace BK1034 := am (bb BK1034 hb); replace HB := am (below_step bz hb); (try clear hb); (try clear hb2); (try clear hk); (try clear hi)) | ((with_reducible refine gate_dst (N := 4) rfl ?_); refine box_event (by rfl) (N := 4) (by rfl) (cs := #[.bool false, .string (⟨#[]⟩ : ByteArray), .int .i64 0]) (t := 99) (by go_simp <;> rfl) ?_; intro gb1039 hg w14 hbox hb; have BK1039 := am (hbox); have GW1039 := gw w hg; replace HB := am (below_step bz hb); have NB1034_1039 := nl BK1034 hg; have NB1039_1034 := nr BK1034 hg; replace BK1034 := am (bb BK1034 hb); clear hb hbox hg; have hnb15 := NB1039_1034.out; have hnc15 := NB1034_1039.out; have hcz16_0 : w14.cell? ⟨gb1039, 0, none⟩ = some (.bool false) := bc BK1039 0; have hcz16_1 : w14.cell? ⟨gb1039, 1, none⟩ = some (.string (⟨#[]⟩ : ByteArray)) := bc BK1039 1; have hcz16_2 : w14.cell? ⟨gb1039, 2, none⟩ = some (.int .i64 0) := bc BK1039 2; have hfz16_0 := blk_frozen BK1039.out 0; have hfz16_1 := blk_frozen BK1039.out 1; have hfz16_2 := blk_frozen BK1039.out 2) | ((with_reducible refine gate_callee (f := 92) rfl ?_); refine goesL_ (some 19) rfl rfl Tryd.func92 (by kernel_rfl) rfl #[.agg #[.bool t1035, .string t1036, .int .i64 t1037]] rfl rf ?_; (with_reducible refine (micro_decimal_worth.calls k t1035 t1036 t1037 t1040 t1041 t1042 _ A11.out).mono ?_); rintro e w17 ⟨rfl, hb⟩; refine ⟨_, rfl, ?_⟩; replace BK1034 := am (blk_below (g := gb1034) (o := .cells #[.int .i64 0, .int .u64 0] 24 (0, 0)) kg hb); replace BK1039 := am (blk_below (g := gb1039) (o := .cells #[.bool t1035, .string t1036, .int .i64 t1037] 99 (0, 0)) (blk_put (blk_put (blk_put BK1039.out 0 _ rfl) 1 _ rfl) 2 _ rfl) hb); replace HB := am (below_step bz hb); (try clear hb); (try clear hb2); (try clear hk); (try clear hi); have hcz18_0 : w17.cell? ⟨gb1034, 0, none⟩ = some (.int .i64 0) := bc BK1034 0; have hcz18_1 : w17.cell? ⟨gb1034, 1, none⟩ = some (.int .u64 0) := bc BK1034 1; have hfz18_0 := blk_frozen BK1034.out 0; have hfz18_1 := blk_frozen BK1034.out 1))
     refine bodyPost_ret (results_ct rfl _ _ gb1034 24 #[.int .i64 t1040, .int .u64 t1041] (0, 0) _ rfl (blk_put (blk_put BK1034.out 0 _ rfl) 1 _ rfl) Tryd.underlying24 rfl (by kernel_rfl)) rfl ?_
     exact ⟨rg, bz⟩
 · replace c3 := Bool.eq_false_iff.mpr c3
   subst c3
   have H1 : (some (0, 0, 20)) = some (r1, r2, r3) := by rw [if_neg (show ¬ (false = true) by decide)] at H; exact H
   clear H; have H := H1; clear H1
   simp only [Option.some.injEq, Prod.mk.injEq] at H
   obtain ⟨rfl, rfl, rfl⟩ := H
   go_enter Tryd.func58, Tryd.ntmps58
   go_wp2_with (first | ((with_reducible refine gate_dst (N := 2) rfl ?_); refine box_event (by rfl) (N := 2) (by rfl) (cs := #[.int .i64 0, .int .u64 0]) (t := 24) (by go_simp <;> rfl) ?_; intro gb1034 hg w19 hbox hb; have BK1034 := am (hbox); have GW1034 := gw w hg; replace HB := am (below_step bz hb); clear hb hbox hg) | ((with_reducible refine gate_callee (f := 91) rfl ?_); refine goesL_ (some 8) rfl rfl Tryd.func91 (by kernel_rfl) rfl #[.string a0] rfl rf ?_; (with_reducible refine (micro_read.calls a0 t1035 t1036 t1037 false _ A2.out).mono ?_); rintro e w20 ⟨rfl, hb⟩; refine ⟨_, rfl, ?_⟩; replace BK1034 := am (bb BK1034 hb); replace HB := am (below_step bz hb); (try clear hb); (try clear hb2); (try clear hk); (try clear hi)) | ((with_reducible refine gate_dst (N := 4) rfl ?_); refine box_event (by rfl) (N := 4) (by rfl) (cs := #[.bool false, .string (⟨#[]⟩ : ByteArray), .int .i64 0]) (t := 99) (by go_simp <;> rfl) ?_; intro gb1039 hg w21 hbox hb; have BK1039 := am (hbox); have GW1039 := gw w hg; replace HB := am (below_step bz hb); have NB1034_1039 := nl BK1034 hg; have NB1039_1034 := nr BK1034 hg; replace BK1034 := am (bb BK1034 hb); clear hb hbox hg; have hnb22 := NB1039_1034.out; have hnc22 := NB1034_1039.out; have hcz23_0 : w21.cell? ⟨gb1039, 0, none⟩ = some (.bool false) := bc BK1039 0; have hcz23_1 : w21.cell? ⟨gb1039, 1, none⟩ = some (.string (⟨#[]⟩ : ByteArray)) := bc BK1039 1; have hcz23_2 : w21.cell? ⟨gb1039, 2, none⟩ = some (.int .i64 0) := bc BK1039 2; have hfz23_0 := blk_frozen BK1039.out 0; have hfz23_1 := blk_frozen BK1039.out 1; have hfz23_2 := blk_frozen BK1039.out 2; have hcz24_0 : w21.cell? ⟨gb1034, 0, none⟩ = some (.int .i64 0) := bc BK1034 0; have hcz24_1 : w21.cell? ⟨gb1034, 1, none⟩ = some (.int .u64 0) := bc BK1034 1; have hfz24_0 := blk_frozen BK1034.out 0; have hfz24_1 := blk_frozen BK1034.out 1))
   refine bodyPost_ret (results_ct rfl _ _ gb1034 24 #[.int .i64 0, .int .u64 0] (0, 0) _ rfl (blk_put (blk_put (blk_far (blk_far (blk_far BK1034.out NB1034_1039.out _) NB1034_1039.out _) NB1034_1039.out _) 0 _ rfl) 1 _ rfl) Tryd.underlying24 rfl (by kernel_rfl)) rfl ?_
   exact ⟨rg, bz⟩

end Go.Proofs.YtcfhmbhlibhlnaaDoor.P
