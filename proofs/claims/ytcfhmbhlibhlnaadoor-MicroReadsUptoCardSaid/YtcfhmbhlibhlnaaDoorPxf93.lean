-- Printed by this session's own pp.py (wip/tool) out of the translation.
import Derived.Test.YtcfhmbhlibhlnaaDoorPx0
import Derived.Test.YtcfhmbhlibhlnaaDoorPxf116
import Derived.Test.YtcfhmbhlibhlnaaDoorPxf117
namespace Go.Proofs.YtcfhmbhlibhlnaaDoor.P
open Go.RowKit Go.Proofs.YtcfhmbhlibhlnaaDoorW.PrintWords Go.Proofs.YtcfhmbhlibhlnaaDoorW.PrintLast Go.Proofs.YtcfhmbhlibhlnaaDoorW.PrintMore Go.Proofs.YtcfhmbhlibhlnaaDoor.Mine
attribute [local go_sem] ext71 ext79 eqA61 eqA62
attribute [local go_sem] max2_int min2_int max_two min_two max_three min_three max_four min_four   -- for this text's walks alone
set_option linter.unusedVariables false
set_option linter.unusedSimpArgs false

/-! ### tumblerref02_taken: function 93 -/
def tumblerref02_taken.f (k : Nat) (a0 : ByteArray) : Option (Int × Int × Bool × Bool × Int) := (tumblerref02_Take.f k a0).bind fun bt1084 => (if bt1084.2.2.2 = true then (if (bt1084.2.2.1.size : Int) > 6 then (some (0, 0, false, false, 21)) else ((tumblerref02_Worth.f k bt1084.1 bt1084.2.1 bt1084.2.2.1).bind fun bt1089 => (some (bt1089.1, bt1089.2.1, bt1089.2.2, bt1084.1, 0)))) else (some (0, 0, false, false, 20)))
theorem tumblerref02_taken.mono : ∀ a0 k, LeO (tumblerref02_taken.f k a0) (tumblerref02_taken.f (k + 1) a0) := by
 intro a0 k
 unfold tumblerref02_taken.f
 repeat' first
  | (with_reducible exact tumblerref02_Take.mono _ _)
  | (with_reducible exact tumblerref02_Worth.mono _ _ _ _)
  | (with_reducible exact LeO.refl _)
  | (with_reducible exact LeO.none _)
  | (with_reducible refine LeO.ite ?_ ?_)
  | (with_reducible refine LeO.bind ?_ (fun _ => ?_))
  | exact tumblerref02_Take.mono _ _
  | exact tumblerref02_Worth.mono _ _ _ _
  | exact LeO.none _
  | refine LeO.ite ?_ ?_
  | refine LeO.bind ?_ (fun _ => ?_)
set_option maxHeartbeats 8000000 in
set_option maxRecDepth 100000 in
theorem tumblerref02_taken.calls (k : Nat) (a0 : ByteArray) (r1 : Int) (r2 : Int) (r3 : Bool) (r4 : Bool) (r5 : Int) (w : World) (h : tumblerref02_taken.f k a0 = some (r1, r2, r3, r4, r5)) :
 Calls Tryd.prog 93 #[.string a0] w fun e w' => e = .returned (.tuple #[.agg #[.int .u64 r1, .int .u64 r2, .bool r3], .bool r4, .int .i64 r5]) ∧ Below w.heap.size w w' := by
 have hu93 := Tryd.underlying93; have hu133 := Tryd.underlying133; have HB := am (Below.refl w.heap.size w); have H : ((tumblerref02_Take.f k a0).bind fun bt1084 => (if bt1084.2.2.2 = true then (if (bt1084.2.2.1.size : Int) > 6 then (some (0, 0, false, false, 21)) else ((tumblerref02_Worth.f k bt1084.1 bt1084.2.1 bt1084.2.2.1).bind fun bt1089 => (some (bt1089.1, bt1089.2.1, bt1089.2.2, bt1084.1, 0)))) else (some (0, 0, false, false, 20)))) = some (r1, r2, r3, r4, r5) := h; clear h
 replace H := Option.bind_eq_some_iff.mp H
 obtain ⟨⟨t1084, t1085, t1086, t1087⟩, A20, H⟩ := H
 replace H : (if t1087 = true then (if (t1086.size : Int) > 6 then (some (0, 0, false, false, 21)) else ((tumblerref02_Worth.f k t1084 t1085 t1086).bind fun bt1089 => (some (bt1089.1, bt1089.2.1, bt1089.2.2, t1084, 0)))) else (some (0, 0, false, false, 20))) = some (r1, r2, r3, r4, r5) := H
 have A2 := Aside0.mk A20; clear A20
 by_cases c3 : t1087 = true
 · subst c3
   have H1 : (if (t1086.size : Int) > 6 then (some (0, 0, false, false, 21)) else ((tumblerref02_Worth.f k t1084 t1085 t1086).bind fun bt1089 => (some (bt1089.1, bt1089.2.1, bt1089.2.2, t1084, 0)))) = some (r1, r2, r3, r4, r5) := by rw [if_pos rfl] at H; exact H
   clear H; have H := H1; clear H1
   by_cases c4 : (t1086.size : Int) > 6
   · rw [if_pos c4] at H
     have c4b0 : decide (6 < (t1086.size : Int)) = true := decide_eq_true c4; have c4b1 : decide (6 < t1086.size) = true := decide_eq_true (by omega); clear c4
     simp only [Option.some.injEq, Prod.mk.injEq] at H
     obtain ⟨rfl, rfl, rfl, rfl, rfl⟩ := H
     go_enter Tryd.func93, Tryd.ntmps93
     go_wp2_with (first | ((with_reducible refine gate_dst (N := 2) rfl ?_); refine box_event (by rfl) (N := 2) (by rfl) (cs := #[.int .u64 0, .int .u64 0, .bool false]) (t := 93) (by go_simp <;> rfl) ?_; intro gb1083 hg w5 hbox hb; have BK1083 := am (hbox); have GW1083 := gw w hg; replace HB := am (below_step bz hb); clear hb hbox hg) | ((with_reducible refine gate_callee (f := 116) rfl ?_); refine goesL_ (some 9) rfl rfl Tryd.func116 (by kernel_rfl) rfl #[.string a0] rfl rf ?_; (with_reducible refine (tumblerref02_Take.calls k a0 t1084 t1085 t1086 true _ A2.out).mono ?_); rintro e w6 ⟨rfl, hb⟩; refine ⟨_, rfl, ?_⟩; replace BK1083 := am (bb BK1083 hb); replace HB := am (below_step bz hb); (try clear hb); (try clear hb2); (try clear hk); (try clear hi)) | ((with_reducible refine gate_dst (N := 5) rfl ?_); refine box_event (by rfl) (N := 5) (by rfl) (cs := #[.bool false, .string (⟨#[]⟩ : ByteArray), .string (⟨#[]⟩ : ByteArray)]) (t := 133) (by go_simp <;> rfl) ?_; intro gb1088 hg w7 hbox hb; have BK1088 := am (hbox); have GW1088 := gw w hg; replace HB := am (below_step bz hb); have NB1083_1088 := nl BK1083 hg; have NB1088_1083 := nr BK1083 hg; replace BK1083 := am (bb BK1083 hb); clear hb hbox hg; have hnb8 := NB1088_1083.out; have hnc8 := NB1083_1088.out; have hcz9_0 : w7.cell? ⟨gb1088, 0, none⟩ = some (.bool false) := bc BK1088 0; have hcz9_1 : w7.cell? ⟨gb1088, 1, none⟩ = some (.string (⟨#[]⟩ : ByteArray)) := bc BK1088 1; have hcz9_2 : w7.cell? ⟨gb1088, 2, none⟩ = some (.string (⟨#[]⟩ : ByteArray)) := bc BK1088 2; have hfz9_0 := blk_frozen BK1088.out 0; have hfz9_1 := blk_frozen BK1088.out 1; have hfz9_2 := blk_frozen BK1088.out 2; have hcz10_0 : w7.cell? ⟨gb1083, 0, none⟩ = some (.int .u64 0) := bc BK1083 0; have hcz10_1 : w7.cell? ⟨gb1083, 1, none⟩ = some (.int .u64 0) := bc BK1083 1; have hcz10_2 : w7.cell? ⟨gb1083, 2, none⟩ = some (.bool false) := bc BK1083 2; have hfz10_0 := blk_frozen BK1083.out 0; have hfz10_1 := blk_frozen BK1083.out 1; have hfz10_2 := blk_frozen BK1083.out 2))
     refine bodyPost_ret (results_ctt rfl _ _ gb1083 93 #[.int .u64 0, .int .u64 0, .bool false] (0, 0) _ rfl (blk_put (blk_put (blk_put (blk_far (blk_far (blk_far BK1083.out NB1083_1088.out _) NB1083_1088.out _) NB1083_1088.out _) 0 _ rfl) 1 _ rfl) 2 _ rfl) Tryd.underlying93 rfl (by kernel_rfl)) rfl ?_
     exact ⟨rg, bz⟩
   · rw [if_neg c4] at H
     have c4b0 : decide (6 < (t1086.size : Int)) = false := decide_eq_false c4; have c4b1 : decide (6 < t1086.size) = false := decide_eq_false (by omega); clear c4
     replace H := Option.bind_eq_some_iff.mp H
     obtain ⟨⟨t1089, t1090, t1091⟩, A110, H⟩ := H
     replace H : (some (t1089, t1090, t1091, t1084, 0)) = some (r1, r2, r3, r4, r5) := H
     have A11 := Aside0.mk A110; clear A110
     simp only [Option.some.injEq, Prod.mk.injEq] at H
     obtain ⟨rfl, rfl, rfl, rfl, rfl⟩ := H
     go_enter Tryd.func93, Tryd.ntmps93
     try go_wp2_with (first | ((with_reducible refine gate_dst (N := 2) rfl ?_); refine box_event (by rfl) (N := 2) (by rfl) (cs := #[.int .u64 0, .int .u64 0, .bool false]) (t := 93) (by go_simp <;> rfl) ?_; intro gb1083 hg w12 hbox hb; have BK1083 := am (hbox); have GW1083 := gw w hg; replace HB := am (below_step bz hb); clear hb hbox hg) | ((with_reducible refine gate_callee (f := 116) rfl ?_); refine goesL_ (some 9) rfl rfl Tryd.func116 (by kernel_rfl) rfl #[.string a0] rfl rf ?_; (with_reducible refine (tumblerref02_Take.calls k a0 t1084 t1085 t1086 true _ A2.out).mono ?_); rintro e w13 ⟨rfl, hb⟩; refine ⟨_, rfl, ?_⟩; replace BK1083 := am (bb BK1083 hb); replace HB := am (below_step bz hb); (try clear hb); (try clear hb2); (try clear hk); (try clear hi)) | ((with_reducible refine gate_dst (N := 5) rfl ?_); refine box_event (by rfl) (N := 5) (by rfl) (cs := #[.bool false, .string (⟨#[]⟩ : ByteArray), .string (⟨#[]⟩ : ByteArray)]) (t := 133) (by go_simp <;> rfl) ?_; intro gb1088 hg w14 hbox hb; have BK1088 := am (hbox); have GW1088 := gw w hg; replace HB := am (below_step bz hb); have NB1083_1088 := nl BK1083 hg; have NB1088_1083 := nr BK1083 hg; replace BK1083 := am (bb BK1083 hb); clear hb hbox hg; have hnb15 := NB1088_1083.out; have hnc15 := NB1083_1088.out; have hcz16_0 : w14.cell? ⟨gb1088, 0, none⟩ = some (.bool false) := bc BK1088 0; have hcz16_1 : w14.cell? ⟨gb1088, 1, none⟩ = some (.string (⟨#[]⟩ : ByteArray)) := bc BK1088 1; have hcz16_2 : w14.cell? ⟨gb1088, 2, none⟩ = some (.string (⟨#[]⟩ : ByteArray)) := bc BK1088 2; have hfz16_0 := blk_frozen BK1088.out 0; have hfz16_1 := blk_frozen BK1088.out 1; have hfz16_2 := blk_frozen BK1088.out 2))
     have n0_ : Aside0 ((((w14.setCell ⟨gb1088, 0, none⟩ (.bool t1084)).setCell ⟨gb1088, 1, none⟩ (.string t1085)).setCell ⟨gb1088, 2, none⟩ (.string t1086)).heap[gb1083]? = some (.cells #[.int .u64 0, .int .u64 0, .bool false] 93 (0, 0))) := kf; have n1_ : Aside0 ((((w14.setCell ⟨gb1088, 0, none⟩ (.bool t1084)).setCell ⟨gb1088, 1, none⟩ (.string t1085)).setCell ⟨gb1088, 2, none⟩ (.string t1086)).heap[gb1088]? = some (.cells #[.bool t1084, .string t1085, .string t1086] 133 (0, 0))) := ⟨blk_put (blk_put (blk_put BK1088.out 0 _ rfl) 1 _ rfl) 2 _ rfl⟩; have n2_ : Aside0 (Below w.heap.size w (((w14.setCell ⟨gb1088, 0, none⟩ (.bool t1084)).setCell ⟨gb1088, 1, none⟩ (.string t1085)).setCell ⟨gb1088, 2, none⟩ (.string t1086))) := ⟨bz⟩; (try clear BK1083); (try clear BK1088); (try clear HB); generalize (((w14.setCell ⟨gb1088, 0, none⟩ (.bool t1084)).setCell ⟨gb1088, 1, none⟩ (.string t1085)).setCell ⟨gb1088, 2, none⟩ (.string t1086)) = w17 at n0_ n1_ n2_ ⊢; have BK1083 := n0_; have BK1088 := n1_; have HB := n2_; clear n0_ n1_ n2_; replace BK1083 := am (blk_drew BK1083.out); replace BK1088 := am (blk_drew BK1088.out); replace HB := am (below_drew1 HB.out)
     refine start_ (n := 7) (S := fun w' => w'.cell? ⟨gb1088, 0, none⟩ = some (.bool t1084) ∧ w'.cell? ⟨gb1088, 1, none⟩ = some (.string t1085) ∧ w'.cell? ⟨gb1088, 2, none⟩ = some (.string t1086)) (ds := []) #[false, false, false, false, false, false, false] (by kernel_rfl) rfl rfl ⟨bc BK1088 0, bc BK1088 1, bc BK1088 2⟩ (fun hHeld => ?_)
     generalize w17.drew = w18 at BK1083 BK1088 HB hHeld ⊢
     refine pure_ (i := 2) (N := some 22) (v := ?_) (a' := ?_) #[false, false, true, false, false, false, false] rfl rfl (by kernel_rfl) (fun _ _ _ h => h) (Or.inl ⟨by rfl, ?_⟩) ?_ ?_
     rotate_left; · intro w'; go_simp; with_reducible rfl
     rotate_left; · simp only [Act.put, List.setIfInBounds_toArray, List.set_cons_zero, List.set_cons_succ, i64_w, i32_w]; rfl
     refine take_ (i := 0) (N := some 20) (v := ?_) (a' := ?_) #[true, false, true, false, false, false, false] rfl rfl (by kernel_rfl) (fun _ _ _ h => h) (Or.inl ⟨by rfl, ?_⟩) hHeld ?_ ?_
     rotate_left
     · rintro w' ⟨s0, s1, s2⟩
       go_simp
       with_reducible rfl
     rotate_left
     · simp only [Act.put, List.setIfInBounds_toArray, List.set_cons_zero, List.set_cons_succ, i64_w, i32_w]
       rfl
     refine take_ (i := 3) (N := some 23) (v := ?_) (a' := ?_) #[true, false, true, true, false, false, false] rfl rfl (by kernel_rfl) (fun _ _ _ h => h) (Or.inl ⟨by rfl, ?_⟩) hHeld ?_ ?_
     rotate_left
     · rintro w' ⟨s0, s1, s2⟩
       go_simp
       with_reducible rfl
     rotate_left
     · simp only [Act.put, List.setIfInBounds_toArray, List.set_cons_zero, List.set_cons_succ, i64_w, i32_w]
       rfl
     refine one_ (i := 1) (N := some 21) #[true, true, true, true, false, false, false] rfl rfl (by kernel_rfl) (by decide) (fun K hK => ?_)
     refine goes_ Tryd.func117 (by kernel_rfl) rfl #[.agg #[.bool t1084, .string t1085, .string t1086]] (by rfl) rfl rfl rf ?_
     with_reducible refine (tumblerref02_Worth.calls k t1084 t1085 t1086 t1089 t1090 t1091 _ A11.out).mono ?_
     rintro e w19 ⟨rfl, hb⟩; refine ⟨_, rfl, ?_⟩; replace BK1083 := am (bb BK1083 hb); replace BK1088 := am (bb BK1088 hb); replace HB := am (below_step bz hb); (try clear hb); (try clear hb2); (try clear hk); (try clear hi)
     refine hK.out _ _ ⟨bc BK1088 0, bc BK1088 1, bc BK1088 2⟩ (fun hHeld => ?_)
     clear hK K
     refine norm_ (a' := ?_) ?_ ?_
     rotate_left
     · show Act.put _ (some 21) _ = _
       simp only [Act.put, List.setIfInBounds_toArray, List.set_cons_zero, List.set_cons_succ, i64_w, i32_w]
       rfl
     refine one_ (i := 4) (N := none) #[true, true, true, true, true, false, false] rfl rfl (by kernel_rfl) (by decide) (fun K hK => ?_)
     have hs20 : w19.cell? ⟨gb1083, 0, none⟩ = some (.int .u64 0) := bc BK1083 0; have hfs20 := blk_frozen BK1083.out 0; have hns20_1 := NB1088_1083.out; have hms20_1 := NB1083_1088.out; have hs21 : w19.cell? ⟨gb1083, 1, none⟩ = some (.int .u64 0) := bc BK1083 1; have hfs21 := blk_frozen BK1083.out 1; have hns21_1 := NB1088_1083.out; have hms21_1 := NB1083_1088.out; have hs22 : w19.cell? ⟨gb1083, 2, none⟩ = some (.bool false) := bc BK1083 2; have hfs22 := blk_frozen BK1083.out 2; have hns22_1 := NB1088_1083.out; have hms22_1 := NB1083_1088.out
     refine skip_ (w1 := ?_) (by rfl) rfl ?_ ?_
     rotate_left
     · go_simp
       rfl
     refine hK.out _ _ ⟨((cell_far (p := ⟨gb1083, _, none⟩) NB1088_1083.out _).trans (((cell_far (p := ⟨gb1083, _, none⟩) NB1088_1083.out _).trans (((cell_far (p := ⟨gb1083, _, none⟩) NB1088_1083.out _).trans (hHeld.1)))))), ((cell_far (p := ⟨gb1083, _, none⟩) NB1088_1083.out _).trans (((cell_far (p := ⟨gb1083, _, none⟩) NB1088_1083.out _).trans (((cell_far (p := ⟨gb1083, _, none⟩) NB1088_1083.out _).trans (hHeld.2.1)))))), ((cell_far (p := ⟨gb1083, _, none⟩) NB1088_1083.out _).trans (((cell_far (p := ⟨gb1083, _, none⟩) NB1088_1083.out _).trans (((cell_far (p := ⟨gb1083, _, none⟩) NB1088_1083.out _).trans (hHeld.2.2))))))⟩ (fun hHeld => ?_)
     clear hK K
     refine pure_ (i := 5) (N := some 3) (v := ?_) (a' := ?_) #[true, true, true, true, true, true, false] rfl rfl (by kernel_rfl) (fun _ _ _ h => h) (Or.inl ⟨by rfl, ?_⟩) ?_ ?_
     rotate_left; · intro w'; go_simp; with_reducible rfl
     rotate_left; · simp only [Act.put, List.setIfInBounds_toArray, List.set_cons_zero, List.set_cons_succ, i64_w, i32_w]; rfl
     refine pure_ (i := 6) (N := some 4) (v := ?_) (a' := ?_) #[true, true, true, true, true, true, true] rfl rfl (by kernel_rfl) (fun _ _ _ h => h) (Or.inl ⟨by rfl, ?_⟩) ?_ ?_
     rotate_left; · intro w'; go_simp; with_reducible rfl
     rotate_left; · simp only [Act.put, List.setIfInBounds_toArray, List.set_cons_zero, List.set_cons_succ, i64_w, i32_w]; rfl
     refine done_ (by kernel_rfl) ?_
     try go_wp2
     refine bodyPost_ret (results_ctt rfl _ _ gb1083 93 #[.int .u64 t1089, .int .u64 t1090, .bool t1091] (0, 0) _ rfl (blk_put (blk_put (blk_put BK1083.out 0 _ rfl) 1 _ rfl) 2 _ rfl) Tryd.underlying93 rfl (by kernel_rfl)) rfl ?_
     exact ⟨rg, bz⟩
 · replace c3 := Bool.eq_false_iff.mpr c3
   subst c3
   have H1 : (some (0, 0, false, false, 20)) = some (r1, r2, r3, r4, r5) := by rw [if_neg (show ¬ (false = true) by decide)] at H; exact H
   clear H; have H := H1; clear H1
   simp only [Option.some.injEq, Prod.mk.injEq] at H
   obtain ⟨rfl, rfl, rfl, rfl, rfl⟩ := H
   go_enter Tryd.func93, Tryd.ntmps93
   go_wp2_with (first | ((with_reducible refine gate_dst (N := 2) rfl ?_); refine box_event (by rfl) (N := 2) (by rfl) (cs := #[.int .u64 0, .int .u64 0, .bool false]) (t := 93) (by go_simp <;> rfl) ?_; intro gb1083 hg w23 hbox hb; have BK1083 := am (hbox); have GW1083 := gw w hg; replace HB := am (below_step bz hb); clear hb hbox hg) | ((with_reducible refine gate_callee (f := 116) rfl ?_); refine goesL_ (some 9) rfl rfl Tryd.func116 (by kernel_rfl) rfl #[.string a0] rfl rf ?_; (with_reducible refine (tumblerref02_Take.calls k a0 t1084 t1085 t1086 false _ A2.out).mono ?_); rintro e w24 ⟨rfl, hb⟩; refine ⟨_, rfl, ?_⟩; replace BK1083 := am (bb BK1083 hb); replace HB := am (below_step bz hb); (try clear hb); (try clear hb2); (try clear hk); (try clear hi)) | ((with_reducible refine gate_dst (N := 5) rfl ?_); refine box_event (by rfl) (N := 5) (by rfl) (cs := #[.bool false, .string (⟨#[]⟩ : ByteArray), .string (⟨#[]⟩ : ByteArray)]) (t := 133) (by go_simp <;> rfl) ?_; intro gb1088 hg w25 hbox hb; have BK1088 := am (hbox); have GW1088 := gw w hg; replace HB := am (below_step bz hb); have NB1083_1088 := nl BK1083 hg; have NB1088_1083 := nr BK1083 hg; replace BK1083 := am (bb BK1083 hb); clear hb hbox hg; have hnb26 := NB1088_1083.out; have hnc26 := NB1083_1088.out; have hcz27_0 : w25.cell? ⟨gb1088, 0, none⟩ = some (.bool false) := bc BK1088 0; have hcz27_1 : w25.cell? ⟨gb1088, 1, none⟩ = some (.string (⟨#[]⟩ : ByteArray)) := bc BK1088 1; have hcz27_2 : w25.cell? ⟨gb1088, 2, none⟩ = some (.string (⟨#[]⟩ : ByteArray)) := bc BK1088 2; have hfz27_0 := blk_frozen BK1088.out 0; have hfz27_1 := blk_frozen BK1088.out 1; have hfz27_2 := blk_frozen BK1088.out 2; have hcz28_0 : w25.cell? ⟨gb1083, 0, none⟩ = some (.int .u64 0) := bc BK1083 0; have hcz28_1 : w25.cell? ⟨gb1083, 1, none⟩ = some (.int .u64 0) := bc BK1083 1; have hcz28_2 : w25.cell? ⟨gb1083, 2, none⟩ = some (.bool false) := bc BK1083 2; have hfz28_0 := blk_frozen BK1083.out 0; have hfz28_1 := blk_frozen BK1083.out 1; have hfz28_2 := blk_frozen BK1083.out 2))
   refine bodyPost_ret (results_ctt rfl _ _ gb1083 93 #[.int .u64 0, .int .u64 0, .bool false] (0, 0) _ rfl (blk_put (blk_put (blk_put (blk_far (blk_far (blk_far BK1083.out NB1083_1088.out _) NB1083_1088.out _) NB1083_1088.out _) 0 _ rfl) 1 _ rfl) 2 _ rfl) Tryd.underlying93 rfl (by kernel_rfl)) rfl ?_
   exact ⟨rg, bz⟩

end Go.Proofs.YtcfhmbhlibhlnaaDoor.P
