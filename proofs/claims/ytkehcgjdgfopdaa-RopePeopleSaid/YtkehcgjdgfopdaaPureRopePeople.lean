/- The plain law of RopePeople: the printed function answers true for every line and list of operations. -/
import Derived.Test.YtkehcgjdgfopdaaRopeChar
import Derived.Test.YtkehcgjdgfopdaaRopeLoadP
import Derived.Test.YtkehcgjdgfopdaaPx17
namespace Go.Proofs.Ytkehcgjdgfopdaa.Pure
set_option linter.unusedVariables false
set_option linter.unusedSimpArgs false
open Go.RowKit Go.Proofs.YtkehcgjdgfopdaaW.PrintWords Go.Proofs.YtkehcgjdgfopdaaW.PrintLast Go.Proofs.YtkehcgjdgfopdaaW.PrintMore Go.Proofs.Ytkehcgjdgfopdaa
def ok49 (x : P.S49) : Prop := I64 x.f0 ∧ I64 x.f1 ∧ I64 x.f2
theorem I64.mk {n : Int} (h : -9223372036854775808 ≤ n) (h' : n ≤ 9223372036854775807) : I64 n := by
  unfold I64
  simp [Lit.wf, IntKind.min, IntKind.max, IntKind.signed, IntKind.bits]
  omega
theorem lastF_spec {c : Nat → Prop} [DecidablePred c] : ∀ (n i : Nat) (p : Int), lastF c n i p = p ∨ ∃ j : Nat, i ≤ j ∧ j < i + n ∧ c j ∧ lastF c n i p = j
  | 0, _, _ => Or.inl rfl
  | n + 1, i, p => by
    rw [lastF]
    rcases lastF_spec (c := c) n (i + 1) (if c i then (i : Int) else p) with h | ⟨j, h1, h2, h3, h4⟩
    · rw [h]
      by_cases hc : c i
      · rw [if_pos hc]; exact Or.inr ⟨i, by omega, by omega, hc, rfl⟩
      · rw [if_neg hc]; exact Or.inl rfl
    · exact Or.inr ⟨j, by omega, by omega, h3, h4⟩
theorem LD_set {l : List Int} {i : Nat} (hi : i < l.length) (v : Int) (j : Nat) : LD (l.set i v) j = if j = i then v else LD l j := by
  unfold LD
  by_cases h : j = i
  · subst h
    rw [if_pos rfl, List.getD_eq_getElem?_getD, List.getElem?_set_self hi]; rfl
  · rw [if_neg h, List.getD_eq_getElem?_getD, List.getElem?_set_ne (fun hh => h hh.symm), ← List.getD_eq_getElem?_getD]
theorem sumF_set (f : Nat → Int) (v : Int) (i : Nat) : ∀ n s, sumF (fun j => if j = i then v else f j) n s = sumF f n s + if s ≤ i ∧ i < s + n then v - f i else 0
  | 0, s => by rw [sumF, sumF, if_neg (by omega)]; rfl
  | n + 1, s => by
    rw [sumF, sumF, sumF_set f v i n (s + 1)]
    by_cases h : s = i
    · subst h
      rw [if_pos rfl, if_neg (by omega), if_pos (by omega)]; omega
    · rw [if_neg h]
      by_cases h' : s + 1 ≤ i ∧ i < s + 1 + n
      · rw [if_pos h', if_pos (by omega)]; omega
      · rw [if_neg h', if_neg (by omega)]; omega
theorem ppl_set {l : List Int} {i : Nat} (hi : i < l.length) (v : Int) : ppl (l.set i v) = ppl l + (v - LD l i) := by
  unfold ppl
  rw [List.length_set, sumF_congr _ _ (fun j _ _ => LD_set hi v j), sumF_set, if_pos (by omega)]
theorem RL.set {lp sp off : Int} {l : List Int} {seats : Int} (h : RL lp sp off l seats) {i : Nat} (hi : i < l.length) {v : Int} (hv : 0 ≤ v ∧ v ≤ seats ∧ (pos lp sp off i < lp / 2 ∨ v = 0)) : RL lp sp off (l.set i v) seats := by
  refine RL.mk_ (by rw [List.length_set]; exact h.1) (fun j hj => ?_)
  rw [List.length_set] at hj
  have e := LD_set hi v j
  unfold LD at e
  rw [e]
  by_cases hc : j = i
  · rw [if_pos hc, hc]; exact hv
  · rw [if_neg hc]; exact h.at_ hj
theorem rd_LD {l : List Int} {i : Int} (h0 : 0 ≤ i) : rd l i = LD l i.toNat := rfl
theorem ops_l0 {ops : List P.S49} (hops : (ops.length : Int) ≤ 100) (hok : ∀ x ∈ ops, ok49 x) : ∀ (r t k : Nat) (lp sp off all : Int) (l : List Int), t + r = ops.length → RL lp sp off l 16 → all = ppl l → 2 * r + 700 ≤ k →
    P.skiarealaw17_RopePeople.l0 k ops all (t : Int) lp sp off l = some true := by
  intro r
  induction r with
  | zero =>
    intro t k lp sp off all l ht h hall hk
    obtain ⟨k, rfl⟩ : ∃ j, k = j + 1 := ⟨k - 1, by omega⟩
    rw [P.skiarealaw17_RopePeople.l0, if_neg (by omega)]
  | succ r ih =>
    intro t k lp sp off all l ht h hall hk
    obtain ⟨k, rfl⟩ : ∃ j, k = j + 2 := ⟨k - 2, by omega⟩
    have hv := h.1
    have hbd := h.1.bounds
    have hl : l.length ≤ 200 ∧ 1 ≤ l.length ∧ 5000 ≤ sp ∧ sp ≤ 1000000 ∧ 0 ≤ off ∧ off < lp := by unfold VL at hv; omega
    have hpr := ppl_range h
    have e1 : ((t : Int) + 1) = ((t + 1 : Nat) : Int) := by omega
    have hsub : ∀ (lp' sp' off' all' : Int) (l' : List Int), RL lp' sp' off' l' 16 → all' = ppl l' → P.skiarealaw17_RopePeople.j2 (k + 1) ops all' (t : Int) lp' sp' off' l' = some true := by
      intro lp' sp' off' all' l' h' hall'
      have hv' := h'.1
      have hbd' := h'.1.bounds
      have hl' : l'.length ≤ 200 ∧ 5000 ≤ sp' ∧ sp' ≤ 1000000 ∧ 0 ≤ off' ∧ off' < lp' := by unfold VL at hv'; omega
      rw [P.skiarealaw17_RopePeople.j2, people_at hl'.1 h'.bb (by omega), Option.bind_some, if_pos hall'.symm, right_at (by omega) (I64.mk (by omega) (by omega)) (I64.mk (by omega) (by omega)) (I64.mk (by omega) (by omega)) 16 (by omega), Option.bind_some, decide_eq_true h', if_pos rfl, wrap_at (by omega) (by omega), e1]
      exact ih (t + 1) k lp' sp' off' all' l' (by omega) h' hall' (by omega)
    have hI : I64 (P.rd_T49 ops t).f2 := by
      have hm : P.rd_T49 ops t ∈ ops := by
        unfold P.rd_T49
        rw [Int.toNat_natCast, List.getD_eq_getElem?_getD, List.getElem?_eq_getElem (show t < ops.length by omega)]
        exact List.getElem_mem _
      exact (hok _ hm).2.2
    have hIb := hI.b
    rw [P.skiarealaw17_RopePeople.l0, if_pos (by omega), if_pos (by omega)]
    generalize (P.rd_T49 ops t).f0 = kind
    generalize (P.rd_T49 ops t).f1 = i
    generalize (P.rd_T49 ops t).f2 = n at hIb ⊢
    by_cases k0 : kind = 0
    · rw [if_pos k0, move_at h.1 h.bb (by omega), Option.bind_some]
      by_cases hd : 0 ≤ n ∧ n ≤ sp
      · rw [mv_eq hd]
        dsimp only
        have hlf := lf1_range (d := n) h (seats := 0)
        have hpm := ppl_move (lp := lp) (sp := sp) (off := off) (d := n) (l := l)
        rw [if_pos rfl, if_neg (by omega), wrap_at (x := all - _) (by omega) (by omega)]
        have hj := hsub lp sp ((off + n) % lp) (all - lf1 lp sp off n l) (ld1 lp sp off n l) (h.move (by omega) hd) (by omega)
        rw [hj]
        rcases lastF_spec (c := low lp sp off n) l.length 0 (-1) with hp | ⟨j, _, h2, h3, hp⟩
        · rw [hp, if_neg (by omega), if_neg (by omega), if_neg (by omega)]
        · have hr := pos_range h.1 (j : Int)
          rw [hp, if_neg (by omega), if_neg (by omega), if_pos (by omega), at_in h.1 (by omega) (by omega), Option.bind_some, wrap_at (by omega) (by omega)]
          unfold low at h3
          rw [if_neg (by omega)]
      · rw [mv, if_neg hd]
        dsimp only
        rw [if_neg (by decide), wrap_at (by omega) (by omega), e1]
        exact ih (t + 1) (k + 1) lp sp off all l (by omega) h hall (by omega)
    · rw [if_neg k0]
      have hsame := hsub lp sp off all l h hall
      by_cases k1 : kind = 1
      · rw [if_pos k1, load_at h.1, Option.bind_some, hsame]
        unfold ldR
        by_cases hi : 0 ≤ i ∧ i < (l.length : Int)
        · rw [if_pos hi]
          by_cases hc : pos lp sp off i ≥ sp ∨ pos lp sp off i ≥ lp / 2 ∨ rd l i ≠ 0
          · rw [if_pos hc]
            dsimp only
            rw [if_neg (by decide)]
          · rw [if_neg hc]
            by_cases hn : 0 ≤ n ∧ n ≤ 16 ∧ (16 : Int) ≤ 16
            · rw [if_pos hn]
              dsimp only
              have hz : LD l i.toNat = 0 := by
                have : rd l i = 0 := Classical.byContradiction fun hh => hc (Or.inr (Or.inr hh))
                rwa [rd_LD hi.1] at this
              have hps : pos lp sp off ((i.toNat : Nat) : Int) < lp / 2 := by
                rw [Int.toNat_of_nonneg hi.1]
                rcases Int.lt_or_le (pos lp sp off i) (lp / 2) with h' | h'
                · exact h'
                · exact absurd (Or.inr (Or.inl h')) hc
              rw [if_pos rfl, wrap_at (by omega) (by omega)]
              exact hsub lp sp off (all + n) _ (h.set (by omega) ⟨hn.1, hn.2.1, Or.inl hps⟩) (by rw [ppl_set (by omega), hz]; omega)
            · rw [if_neg hn]
              dsimp only
              rw [if_neg (by decide)]
        · rw [if_neg hi]
          dsimp only
          rw [if_neg (by decide)]
      · rw [if_neg k1, take_at h.1 _ _ (h.rd_ (by omega) i), Option.bind_some, hsame]
        unfold tkR
        by_cases hi : 0 ≤ i ∧ i < (l.length : Int)
        · rw [if_pos hi]
          by_cases hn : 0 ≤ n ∧ n ≤ rd l i
          · rw [if_pos hn]
            dsimp only
            have hle := h.ld (i := i.toNat) (by omega)
            rw [rd_LD hi.1] at hn ⊢
            rw [if_pos rfl, wrap_at (by omega) (by omega)]
            exact hsub lp sp off (all - n) _ (h.set (by omega) ⟨by omega, by omega, by omega⟩) (by rw [ppl_set (by omega)]; omega)
          · rw [if_neg hn]
            dsimp only
            rw [if_neg (by decide)]
        · rw [if_neg hi]
          dsimp only
          rw [if_neg (by decide)]
theorem RopePeople (a0_0 : Int) (a0_1 : Int) (a0_2 : Int) (l0_3 : List Int) (l1 : List (P.S49)) (w0_0 : I64 a0_0) (w0_1 : I64 a0_1) (w0_2 : I64 a0_2) (w0_3 : ∀ x ∈ l0_3, I64 x) (y0_3 : l0_3.length ≤ 9223372036854775807) (w1 : ∀ x ∈ l1, ok49 x) (y1 : l1.length ≤ 9223372036854775807) : ∃ k, P.skiarealaw17_RopePeople.f k a0_0 a0_1 a0_2 l0_3 l1 = some true := by
  obtain ⟨k, hk⟩ : ∃ k : Nat, k = 2000 := ⟨_, rfl⟩
  refine ⟨k + 1, ?_⟩
  unfold P.skiarealaw17_RopePeople.f
  rw [alive_at (by omega), Option.bind_some, if_pos rfl, lright_at w0_0 w0_1 w0_2 (by omega), Option.bind_some]
  by_cases h : RL a0_0 a0_1 a0_2 l0_3 16
  · have hl : l0_3.length ≤ 200 := by have := h.1; unfold VL at this; omega
    rw [decide_eq_true h, if_pos rfl, P.skiarealaw17_RopePeople.j0]
    by_cases hn : (l1.length : Int) > 100
    · rw [decide_eq_true hn, if_pos rfl]
    · rw [decide_eq_false hn, if_neg (by decide), people_at hl h.bb (by omega), Option.bind_some]
      have := ops_l0 (ops := l1) (by omega) w1 l1.length 0 k a0_0 a0_1 a0_2 (ppl l0_3) l0_3 (by omega) h rfl (by omega)
      rw [Int.natCast_zero] at this
      exact this
  · rw [decide_eq_false h, if_neg (by decide), P.skiarealaw17_RopePeople.j0, if_pos rfl]
end Go.Proofs.Ytkehcgjdgfopdaa.Pure
