import Derived.Test.YtkocmbgpiidkdaaGreatDoorFns
set_option linter.unusedVariables false
namespace Go.Proofs.YtkocmbgpiidkdaaGreatDoor
open Go Go.Den
/-! math/bits' Add64 and Sub64 on whole numbers, for any carry up to 1. -/
theorem carries : ∃ f : (Int → Int → Int → Int) × (Int → Int → Int → Int) × (Int → Int → Int → Int) × (Int → Int → Int → Int), ∀ x y c : Int,
    f.1 x y c = (((x.toNat + y.toNat + c.toNat) % 18446744073709551616 : Nat) : Int) ∧ f.2.1 x y c = (((x.toNat + y.toNat + c.toNat) / 18446744073709551616 : Nat) : Int) ∧
    f.2.2.1 x y c = (((x.toNat + 18446744073709551616 - y.toNat - c.toNat) % 18446744073709551616 : Nat) : Int) ∧ f.2.2.2 x y c = ((if x.toNat < y.toNat + c.toNat then 1 else 0 : Nat) : Int) :=
  ⟨(_, _, _, _), fun _ _ _ => ⟨rfl, rfl, rfl, rfl⟩⟩
/-- (Chosen, so that no reckoning looks into them.) -/
noncomputable def addLo (x y c : Int) : Int := carries.choose.1 x y c
noncomputable def addHi (x y c : Int) : Int := carries.choose.2.1 x y c
noncomputable def subLo (x y c : Int) : Int := carries.choose.2.2.1 x y c
noncomputable def subHi (x y c : Int) : Int := carries.choose.2.2.2 x y c
theorem addLo_def (x y c : Int) : addLo x y c = (((x.toNat + y.toNat + c.toNat) % 18446744073709551616 : Nat) : Int) := (carries.choose_spec x y c).1
theorem addHi_def (x y c : Int) : addHi x y c = (((x.toNat + y.toNat + c.toNat) / 18446744073709551616 : Nat) : Int) := (carries.choose_spec x y c).2.1
theorem subLo_def (x y c : Int) : subLo x y c = (((x.toNat + 18446744073709551616 - y.toNat - c.toNat) % 18446744073709551616 : Nat) : Int) := (carries.choose_spec x y c).2.2.1
theorem subHi_def (x y c : Int) : subHi x y c = ((if x.toNat < y.toNat + c.toNat then 1 else 0 : Nat) : Int) := (carries.choose_spec x y c).2.2.2
theorem run_add64_ {P : Program} (x y c : Int) (h : c ≤ 1) (w : World) :
    (add64Entry #[.int .u64 x, .int .u64 y, .int .u64 c]).run P w = .ok (.tuple #[.int .u64 (addLo x y c), .int .u64 (addHi x y c)]) w := by
  have key : ∀ k : Nat, k ≤ 1 → (add64Entry #[.int .u64 x, .int .u64 y, .int .u64 (k : Int)]).run P w =
      .ok (Extern.MathBitsCarry.pair ((x.toNat + y.toNat + k) % Extern.MathBitsCarry.m64) ((x.toNat + y.toNat + k) / Extern.MathBitsCarry.m64)) w := by
    intro k hk
    have : k = 0 ∨ k = 1 := by omega
    rcases this with rfl | rfl <;> rfl
  have key0 : c < 0 → (add64Entry #[.int .u64 x, .int .u64 y, .int .u64 c]).run P w =
      .ok (Extern.MathBitsCarry.pair ((x.toNat + y.toNat + 0) % Extern.MathBitsCarry.m64) ((x.toNat + y.toNat + 0) / Extern.MathBitsCarry.m64)) w := by
    intro hc
    obtain ⟨n, rfl⟩ := Int.eq_negSucc_of_lt_zero hc
    rfl
  by_cases hc : 0 ≤ c
  · obtain ⟨k, rfl⟩ := Int.eq_ofNat_of_zero_le hc
    rw [key k (by omega), addLo_def, addHi_def]
    rfl
  · rw [key0 (by omega)]
    have : c.toNat = 0 := by omega
    simp only [addLo_def, addHi_def, this]
    rfl
theorem run_sub64_ {P : Program} (x y c : Int) (h : c ≤ 1) (w : World) :
    (sub64Entry #[.int .u64 x, .int .u64 y, .int .u64 c]).run P w = .ok (.tuple #[.int .u64 (subLo x y c), .int .u64 (subHi x y c)]) w := by
  have key : ∀ k : Nat, k ≤ 1 → (sub64Entry #[.int .u64 x, .int .u64 y, .int .u64 (k : Int)]).run P w =
      .ok (Extern.MathBitsCarry.pair ((x.toNat + Extern.MathBitsCarry.m64 - y.toNat - k) % Extern.MathBitsCarry.m64) (if x.toNat < y.toNat + k then 1 else 0)) w := by
    intro k hk
    have : k = 0 ∨ k = 1 := by omega
    rcases this with rfl | rfl <;> rfl
  have key0 : c < 0 → (sub64Entry #[.int .u64 x, .int .u64 y, .int .u64 c]).run P w =
      .ok (Extern.MathBitsCarry.pair ((x.toNat + Extern.MathBitsCarry.m64 - y.toNat - 0) % Extern.MathBitsCarry.m64) (if x.toNat < y.toNat + 0 then 1 else 0)) w := by
    intro hc
    obtain ⟨n, rfl⟩ := Int.eq_negSucc_of_lt_zero hc
    rfl
  by_cases hc : 0 ≤ c
  · obtain ⟨k, rfl⟩ := Int.eq_ofNat_of_zero_le hc
    rw [key k (by omega), subLo_def, subHi_def]
    rfl
  · rw [key0 (by omega)]
    have : c.toNat = 0 := by omega
    simp only [subLo_def, subHi_def, this]
    rfl

noncomputable def addK : ExtK := fun args K => match args with
  | [.int .u64 x, .int .u64 y, .int .u64 c] => c ≤ 1 ∧ K (.tuple #[.int .u64 (addLo x y c), .int .u64 (addHi x y c)])
  | _ => False
noncomputable def subK : ExtK := fun args K => match args with
  | [.int .u64 x, .int .u64 y, .int .u64 c] => c ≤ 1 ∧ K (.tuple #[.int .u64 (subLo x y c), .int .u64 (subHi x y c)])
  | _ => False
/-- What a body-less function answers to numbers, as a demand. -/
def ExtOk (P : Program) (f : FuncId) (F : ExtK) : Prop := ∀ (args : List Value) (K : Value → Prop), F args K → ∃ v, K v ∧ ∀ (ρ : Ren) (w : World) (args' : List Value), LRel ρ args args' → ∃ v', VRel ρ v v' ∧ (callFunc f args'.toArray).run P w = .ok (.value v') w
theorem add_ok {P : Program} {f : FuncId} (hr : ∀ (args : Array Value) (w : World), (callFunc f args).run P w = ((add64Entry args).run P w).andThen fun v w' => .ok (.value v) w') : ExtOk P f addK := by
  intro args K h
  unfold addK at h
  split at h
  · rename_i x y c
    refine ⟨_, h.2, fun ρ w args' hL => ⟨_, AF.rel (AF.tuple (by simp [AF.int])) ρ, ?_⟩⟩
    rw [lrel_af hL (by simp [AF.int]), hr, run_add64_ x y c h.1 w]; rfl
  · exact h.elim
theorem sub_ok {P : Program} {f : FuncId} (hr : ∀ (args : Array Value) (w : World), (callFunc f args).run P w = ((sub64Entry args).run P w).andThen fun v w' => .ok (.value v) w') : ExtOk P f subK := by
  intro args K h
  unfold subK at h
  split at h
  · rename_i x y c
    refine ⟨_, h.2, fun ρ w args' hL => ⟨_, AF.rel (AF.tuple (by simp [AF.int])) ρ, ?_⟩⟩
    rw [lrel_af hL (by simp [AF.int]), hr, run_sub64_ x y c h.1 w]; rfl
  · exact h.elim
noncomputable def X1 : FuncId → Option ExtK := fun f => bif Nat.beq f I.math_bits_Add64 then some addK else bif Nat.beq f I.math_bits_Sub64 then some subK else none
theorem X1_ok (f : FuncId) (F : ExtK) (h : X1 f = some F) : ExtOk Tryz.prog f F := by
  unfold X1 at h
  cases h1 : Nat.beq f I.math_bits_Add64 with
  | true =>
    rw [h1] at h; cases h
    have := Nat.eq_of_beq_eq_true h1
    subst this
    exact add_ok fun args w => run_callFunc_extern (P := Tryz.prog) (f := I.math_bits_Add64) (e := add64Entry) NB.math_bits_Add64 (by kernel_rfl) (by kernel_rfl) (by kernel_rfl) (by kernel_rfl) args w
  | false =>
    rw [h1] at h
    cases h2 : Nat.beq f I.math_bits_Sub64 with
    | true =>
      rw [h2] at h; cases h
      have := Nat.eq_of_beq_eq_true h2
      subst this
      exact sub_ok fun args w => run_callFunc_extern (P := Tryz.prog) (f := I.math_bits_Sub64) (e := sub64Entry) NB.math_bits_Sub64 (by kernel_rfl) (by kernel_rfl) (by kernel_rfl) (by kernel_rfl) args w
    | false => rw [h2] at h; cases h
/-- internal/abi's NoEscape: the pointer as it is. -/
def sameK : ExtK := fun us K => match us with
  | [v] => K v
  | _ => False
theorem same_ok {P : Program} {f : FuncId} (hr : ∀ (args : Array Value) (w : World), (callFunc f args).run P w = ((Extern.AbiNoEscape.same args).run P w).andThen fun v w' => .ok (.value v) w') : ExtOk P f sameK := by
  intro args K h
  unfold sameK at h
  split at h
  · rename_i v
    refine ⟨v, h, fun ρ w args' hL => ?_⟩
    obtain ⟨hl, hj⟩ := hL
    match args', hl with
    | [v'], _ => exact ⟨v', hj 0 v v' rfl rfl, by rw [hr]; rfl⟩
  · exact h.elim
noncomputable def X2 : FuncId → Option ExtK := fun f => bif Nat.beq f I.i_abi_NoEscape then some sameK else X1 f
theorem X2_ok (f : FuncId) (F : ExtK) (h : X2 f = some F) : ExtOk Tryz.prog f F := by
  unfold X2 at h
  cases h1 : Nat.beq f I.i_abi_NoEscape with
  | true =>
    rw [h1] at h; cases h
    have := Nat.eq_of_beq_eq_true h1
    subst this
    exact same_ok fun args w => run_callFunc_extern (P := Tryz.prog) (f := I.i_abi_NoEscape) (e := Extern.AbiNoEscape.same) NB.i_abi_NoEscape (by kernel_rfl) (by kernel_rfl) (by kernel_rfl) (by kernel_rfl) args w
  | false => rw [h1] at h; exact X1_ok f F h
/-- Two texts compared, byte by byte. -/
def cmpK : ExtK := fun us K => match us with
  | [.string a, .string b] => K (.int .i64 (Extern.BytealgCompare.cmp a b))
  | _ => False
theorem cmp_ok {P : Program} {f : FuncId} (hr : ∀ (args : Array Value) (w : World), (callFunc f args).run P w = ((Extern.BytealgCompare.compare args).run P w).andThen fun v w' => .ok (.value v) w') : ExtOk P f cmpK := by
  intro args K h
  unfold cmpK at h
  split at h
  · rename_i a b
    refine ⟨_, h, fun ρ w args' hL => ⟨_, AF.rel (AF.int _ _) ρ, ?_⟩⟩
    rw [lrel_af hL (by simp [AF.string]), hr]; rfl
  · exact h.elim
noncomputable def X : FuncId → Option ExtK := fun f => bif Nat.beq f I.i_bytealg_abigen_runtime_cmpstring then some cmpK else X2 f
theorem X_ok (f : FuncId) (F : ExtK) (h : X f = some F) : ExtOk Tryz.prog f F := by
  unfold X at h
  cases h1 : Nat.beq f I.i_bytealg_abigen_runtime_cmpstring with
  | true =>
    rw [h1] at h; cases h
    have := Nat.eq_of_beq_eq_true h1
    subst this
    exact cmp_ok fun args w => run_callFunc_extern (P := Tryz.prog) (f := I.i_bytealg_abigen_runtime_cmpstring) (e := Extern.BytealgCompare.compare) NB.i_bytealg_abigen_runtime_cmpstring (by kernel_rfl) (by kernel_rfl) (by kernel_rfl) (by kernel_rfl) args w
  | false => rw [h1] at h; exact X2_ok f F h
noncomputable def C (W0 : World) : Ctx := ⟨Tryz.prog, W0, tys, X⟩
theorem C_ok (W0 : World) : (C W0).Ok := ⟨tys_ok.1, tys_ok.2, by kernel_rfl, X_ok⟩
end Go.Proofs.YtkocmbgpiidkdaaGreatDoor
