/- An array of two elements that reads as data is a pair of values; nothing of the program. -/
import Derived.Test.YtkehcgjdgfopdaaOpen
namespace Go.Proofs.Ytkehcgjdgfopdaa
open Go.RowKit Go.Proofs.YtkehcgjdgfopdaaW.PrintWords
theorem Rd.array2 {α : Type} {P : Program} {t e : TypeId} {d : Kd α} {ok : α → Prop} (ht : P.underlying t = some (.array 2 e)) (he : P.cellsOf e = d.sz) (hc : P.cellsOf t = d.sz + d.sz) (h : Rd P e d ok) :
    Rd P t (Kd.pair d d) (fun p => ok p.1 ∧ ok p.2) := by
  refine ⟨fun {H enc w spare held fuel cs x} hx => ?_⟩
  obtain ⟨xs, m, _, _, hl, hxs, hf⟩ := DataW.trod_array ht hx
  have h0 := hf 0 (by omega)
  have h1 := hf 1 (by omega)
  rw [List.getElem?_eq_getElem (by omega)] at h0 h1
  rw [he] at h0 h1
  rw [Nat.zero_mul, List.drop_zero] at h0
  rw [Nat.one_mul, List.take_of_length_le (by rw [List.length_drop]; omega)] at h1
  obtain ⟨a, hK, hok⟩ := h.rd h0
  obtain ⟨b, hK', hok'⟩ := h.rd h1
  exact ⟨(a, b), ⟨_, _, (List.take_append_drop _ _).symm, hK, hK'⟩, hok, hok'⟩
theorem okWide_array {P : Program} {w : World} {r : Reach} {base n : Nat} {t e : TypeId} {v : Value} (ht : P.underlying t = some (.array n e)) (h : Value.okWide P w r base t v) : ∃ cs, v = .agg cs ∧ cs.size = P.cellsOf t := by
  simp only [Value.okWide, ht] at h
  obtain ⟨cs, h1, h2, _⟩ := h
  exact ⟨cs, h1, h2⟩
end Go.Proofs.Ytkehcgjdgfopdaa
