/- Short words for what stands a thousand times in a printed walk: this session's own. -/
import Derived.Test.YtcfhmbhlibhlnaaDoorMine
namespace Go.Proofs.YtcfhmbhlibhlnaaDoor.Mine
open Go.RowKit Go.Proofs.YtcfhmbhlibhlnaaDoorW.PrintWords Go.Proofs.YtcfhmbhlibhlnaaDoorW.PrintLast Go.Proofs.YtcfhmbhlibhlnaaDoorW.PrintMore
theorem gw (w : World) {W : World} {g : Nat} (hg : g = W.heap.size) (h : Below w.heap.size w W := by repeat (first | (with_reducible first | exact Aside0.out ‹_› | apply dA | apply dB | apply dC | refine dE ?_ ‹_›) | exact Aside0.out ‹_›)) : Aside0 (w.heap.size ≤ g) := ⟨hg ▸ h.size⟩
theorem nl {w0 W : World} {g g' : Nat} {o : Obj} (_b : Aside0 (w0.heap[g]? = some o)) (hg : g' = W.heap.size) (h : W.heap[g]? = some o := by (with_reducible repeat (first | apply bA | apply bB | apply bC)); exact Aside0.out ‹_›) : Aside0 (g ≠ g') := ⟨hg ▸ Nat.ne_of_lt (blk_lt h)⟩
theorem nr {w0 W : World} {g g' : Nat} {o : Obj} (_b : Aside0 (w0.heap[g]? = some o)) (hg : g' = W.heap.size) (h : W.heap[g]? = some o := by (with_reducible repeat (first | apply bA | apply bB | apply bC)); exact Aside0.out ‹_›) : Aside0 (g' ≠ g) := ⟨hg ▸ Nat.ne_of_gt (blk_lt h)⟩
/-- A block behind draws, new blocks and cells set in other blocks. -/
theorem kg {w : World} {g : Nat} {o : Obj} (h : w.heap[g]? = some o := by repeat (first | (with_reducible first | exact Aside0.out ‹_› | apply bA | apply bB | apply bC | refine blk_far ?_ (Aside0.out ‹_›) _) | refine blk_far ?_ (Aside0.out ‹_›) _ | exact Aside0.out ‹_›)) : w.heap[g]? = some o := h
theorem kf {w : World} {g : Nat} {o : Obj} (h : w.heap[g]? = some o := by repeat (first | (with_reducible first | exact Aside0.out ‹_› | apply bA | apply bB | apply bC | refine blk_far ?_ (Aside0.out ‹_›) _) | refine blk_far ?_ (Aside0.out ‹_›) _ | exact Aside0.out ‹_›)) : Aside0 (w.heap[g]? = some o) := ⟨h⟩
theorem rf {α : Sort _} {a b : α} (h : a = b := by (try simp only [List.map_toArray, List.map_cons, List.map_nil]); first | done | rfl | (simp only [List.length_drop, List.length_take]; rfl)) : a = b := h
theorem nm {P : Program} {ops : Array Oper} {Q : Exit → Act → World → Prop} {md : Region.Mode} {S : World → Prop} {ds : List Nat} {fuel : Nat} {l : Array Bool} {a a' : Act} {w : World} (h : wpAnyLast P md ops Q S ds fuel l a' w)
    (ha : a = a' := by simp only [putAll, Act.put, List.setIfInBounds_toArray, List.set_cons_zero, List.set_cons_succ] <;> rfl) : wpAnyLast P md ops Q S ds fuel l a w := norm_ ha h
theorem rg {α : Sort _} {a b : α} (h : a = b := by first | rfl | (simp [errW_none, errW_some] <;> rfl) | (simp [*, errW_none, errW_some] <;> rfl)) : a = b := h
theorem rs {p : Prop} (h : p := by first | rfl | (simp; done) | (simp [*]; done)) : p := h
theorem bc {w : World} {g : Nat} {t : TypeId} {cs : Array Value} (h : Aside0 (w.heap[g]? = some (.cells cs t (0, 0)))) (i : Nat) {v : Value} (e : cs[i]? = some v := by rfl) : w.cell? ⟨g, i, none⟩ = some v := (blk_cell h.out i).trans e
end Go.Proofs.YtcfhmbhlibhlnaaDoor.Mine
