/- Helpers of this seat, nothing of the program: a block seen through draws and new blocks. -/
import Derived.Test.YtkehcgjdgfopdaaWWords
import Derived.Test.YtkehcgjdgfopdaaWLast
import Derived.Test.YtkehcgjdgfopdaaWMore
namespace Go.Proofs.Ytkehcgjdgfopdaa
open Go.RowKit Go.Proofs.YtkehcgjdgfopdaaW.PrintWords
class Strip (w0 w : World) : Prop where
  out : ∀ {g : Nat} {o : Obj}, w.heap[g]? = some o → w0.heap[g]? = some o
instance Strip.refl_ (w : World) : Strip w w := ⟨fun h => h⟩
instance Strip.drewN_ (w0 w : World) (n : Nat) [s : Strip w0 w] : Strip (w0.drewN n) w := ⟨fun h => blk_drewN (s.out h) n⟩
instance Strip.drew_ (w0 w : World) [s : Strip w0 w] : Strip w0.drew w := ⟨fun h => blk_drew (s.out h)⟩
instance Strip.alloc_ (w0 w : World) (o : Obj) [s : Strip w0 w] : Strip (w0.alloc o) w := ⟨fun h => blk_alloc (s.out h) o⟩
theorem bb_ {w0 w w1 : World} {g : Nat} {o : Obj} (h : w.heap[g]? = some o) (hb : Below w0.heap.size w0 w1) [s : Strip w0 w] : w1.heap[g]? = some o := blk_below (s.out h) hb
section
variable {P : Program} {ops : Array Oper} {rest : List Oper} {o : Oper} {a : Act} {Q : Exit → Act → World → Prop}
theorem whole_event {W : World} {g : Nat} {cs : Array Value} {t : TypeId} {v : Value} (hgd : o.guard = none)
    (hrun : ∀ w1 : World, w1.heap[g]? = some (.cells cs t (0, 0)) → (execOp a.eval o).run P w1 = .ok (.value v) w1) (hb : W.heap[g]? = some (.cells cs t (0, 0)))
    (h : wpList P ops Q rest (a.put o.dst v) W) : wpList P ops Q (o :: rest) a W := Kd.event_run hgd (hrun W hb) h
end
theorem nl_ {g g' : Nat} {w0 w : World} {o : Obj} (hg : g' = w0.heap.size) (h : w.heap[g]? = some o) [s : Strip w0 w] : g ≠ g' := by rw [hg]; exact Nat.ne_of_lt (blk_lt (s.out h))
theorem ng_ {g g' : Nat} {w0 w : World} {o : Obj} (hg : g' = w0.heap.size) (h : w.heap[g]? = some o) [s : Strip w0 w] : g' ≠ g := by rw [hg]; exact Nat.ne_of_gt (blk_lt (s.out h))
theorem sb_ {w0 w : World} {g : Nat} {o : Obj} (h : w.heap[g]? = some o) [s : Strip w0 w] : w0.heap[g]? = some o := s.out h
theorem Strip.same {w0 w : World} (s : Strip w0 w) (k : Nat) (hk : k < w.heap.size) : w0.heap[k]? = w.heap[k]? := by
  have h : w.heap[k]? = some w.heap[k] := Array.getElem?_eq_getElem hk
  rw [s.out h, h]
theorem sr_ {α : Type} {d : Kd α} {e base : Nat} {ok : Nat → Prop} {w0 w : World} {v : Value} {xs : List α} (h : Kd.R d e w base ok v xs) [s : Strip w0 w] : Kd.R d e w0 base ok v xs := Kd.R_step h (fun k _ hk => s.same k hk)
theorem rb_ {α : Type} {d : Kd α} {e base : Nat} {ok : Nat → Prop} {w0 w w1 : World} {v : Value} {xs : List α} (h : Kd.R d e w base ok v xs) (hb : Below w0.heap.size w0 w1) [s : Strip w0 w] : Kd.R d e w1 base ok v xs := Kd.R_below (sr_ h) hb
theorem blk_putL {w : World} {g : Nat} {t : TypeId} {l : List Value} (h : w.heap[g]? = some (.cells (List.toArray l) t (0, 0))) (i : Nat) (u : Value) : (w.setCell ⟨g, i, none⟩ u).heap[g]? = some (.cells (List.toArray (l.set i u)) t (0, 0)) :=
  blk_put h i u (by simp)
section
variable {P : Program} {ops : Array Oper} {rest : List Oper} {o : Oper} {a : Act} {Q : Exit → Act → World → Prop}
theorem whole_list {W : World} {g : Nat} {l l' : List Value} {t : TypeId} (hgd : o.guard = none) (hb : W.heap[g]? = some (.cells (List.toArray l) t (0, 0))) (hl : l = l')
    (hrun : ∀ w1 : World, w1.heap[g]? = some (.cells (List.toArray l') t (0, 0)) → (execOp a.eval o).run P w1 = .ok (.value (.agg (List.toArray l'))) w1)
    (h : wpList P ops Q rest (a.put o.dst (.agg (List.toArray l'))) W) : wpList P ops Q (o :: rest) a W := by subst hl; exact Kd.event_run hgd (hrun W hb) h
end
end Go.Proofs.Ytkehcgjdgfopdaa
