/- Bounds of wide numbers. -/
import Derived.Test.YtcfhmbhlibhlnaaDoorMRFrom
namespace Go.Proofs.YtcfhmbhlibhlnaaDoor.MM
open Go.RowKit Go.Proofs.YtcfhmbhlibhlnaaDoor.P Go.Proofs.YtcfhmbhlibhlnaaDoorW.PrintWords Go.Proofs.YtcfhmbhlibhlnaaDoorW.PrintMore Go.Proofs.YtcfhmbhlibhlnaaDoor.Mine
set_option linter.unusedVariables false
set_option linter.unusedSimpArgs false

theorem Bd_wide (h l : Int) (hh : Hi h) (hl : U l) : Bd (h * 18446744073709551616 + l) := Bd_of (Int.lt_of_le_of_lt (mag_lt h l hh hl) (by decide))
theorem mag_add (x y : Int) : mag (x + y) ≤ mag x + mag y := by
  unfold mag
  repeat' split
  all_goals omega
theorem mag_min (x : Int) : mag (-x) = mag x := by
  unfold mag
  repeat' split
  all_goals omega
theorem Bd_sum {x y : Int} (hx : mag x ≤ 170141183460469231731687303715884105728) (hy : mag y ≤ 170141183460469231731687303715884105728) : Bd (x + y) :=
  Bd_of (by have := mag_add x y; omega)
theorem Ev_three {g : Nat → Option (Int × Int × Int)} {r : Int × Int × Int} (h : Ev g r) : Ev (fun k => (g k).bind fun b => some (b.1, b.2.1, b.2.2)) r := by
  obtain ⟨K, hK⟩ := h
  exact ⟨K, fun k hk => by show (g k).bind _ = _; rw [hK k hk]; rfl⟩
end Go.Proofs.YtcfhmbhlibhlnaaDoor.MM
