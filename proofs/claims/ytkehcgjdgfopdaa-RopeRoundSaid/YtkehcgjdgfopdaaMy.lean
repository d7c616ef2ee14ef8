/- Helpers of this seat, nothing of the program: a block seen through draws and new blocks. -/
import Derived.Test.YtkehcgjdgfopdaaWWords
import Derived.Test.YtkehcgjdgfopdaaWLast
import Derived.Test.YtkehcgjdgfopdaaWMore
namespace Go.Proofs.Ytkehcgjdgfopdaa
open Go.RowKit Go.Proofs.YtkehcgjdgfopdaaW.PrintWords
class Strip (w0 w : World) : Prop where
  out : ∀ {g : Nat} {o : Obj}, w.heap[g]? = some o → w0.heap[g]? = some o
instance Strip.refl_ (w : World) : Strip w w := ⟨fun h => h⟩
instance Strip.drewN_ (w0 w : World) (n : Nat) [s : Strip w0 w] : Strip (w0.drewN n) w := ⟨fun h => blk_drewN (s.out h) n⟩
instance Strip.drew_ (w0 w : World) [s : Strip w0 w] : Strip w0.drew w := ⟨fun h => blk_drew (s.out h)⟩
instance Strip.alloc_ (w0 w : World) (o : Obj) [s : Strip w0 w] : Strip (w0.alloc o) w := ⟨fun h => blk_alloc (s.out h) o⟩
theorem bb_ {w0 w w1 : World} {g : Nat} {o : Obj} (h : w.heap[g]? = some o) (hb : Below w0.heap.size w0 w1) [s : Strip w0 w] : w1.heap[g]? = some o := blk_below (s.out h) hb

end Go.Proofs.Ytkehcgjdgfopdaa
