/- The plain law of ChainInterrupts: the printed function answers true for every chain, contact, operations and time. -/
import Derived.Test.YteepdedbldnccaaChainDo
import Derived.Test.YteepdedbldnccaaPx40
import Derived.Test.YteepdedbldnccaaPx41
namespace Go.Proofs.Yteepdedbldnccaa.Pure
set_option linter.unusedVariables false
set_option linter.unusedSimpArgs false
open Go.RowKit Go.Proofs.YteepdedbldnccaaW.PrintWords Go.Proofs.YteepdedbldnccaaW.PrintLast Go.Proofs.YteepdedbldnccaaW.PrintMore Go.Proofs.Yteepdedbldnccaa
theorem rdI {l : List Int} {j : Nat} (h : j < l.length) : rd l (j : Int) = l[j] := by
  unfold rd; rw [Int.toNat_natCast, List.getD_eq_getElem?_getD, List.getElem?_eq_getElem h]; rfl
theorem has_l0 (l : List Int) (id : Int) (hl : l.length ≤ 100) : ∀ (n j k : Nat), l.length - j ≤ n → j ≤ l.length → n < k → P.skiarealaw16_has.l0 k l id (j : Int) = some ((l.drop j).any (fun y => y == id)) := by
  intro n
  induction n with
  | zero =>
    intro j k h1 h2 h3
    obtain ⟨k, rfl⟩ : ∃ q, k = q + 1 := ⟨k - 1, by omega⟩
    unfold P.skiarealaw16_has.l0
    rw [if_neg (by omega), List.drop_eq_nil_of_le (by omega)]; rfl
  | succ n ih =>
    intro j k h1 h2 h3
    obtain ⟨k, rfl⟩ : ∃ q, k = q + 1 := ⟨k - 1, by omega⟩
    unfold P.skiarealaw16_has.l0
    by_cases h : j < l.length
    · rw [if_pos (show (j : Int) < l.length by omega), if_pos (show (0 : Int) ≤ j by omega), rdI h, List.drop_eq_getElem_cons h, List.any_cons]
      by_cases e : l[j] = id
      · rw [if_pos e, beq_iff_eq.2 e, Bool.true_or]
      · rw [if_neg e, beq_eq_false_iff_ne.2 e, Bool.false_or, wrap_at (by omega) (by omega), show ((j : Int) + 1) = ((j + 1 : Nat) : Int) from by omega, ih (j + 1) k (by omega) (by omega) (by omega)]
    · rw [if_neg (by omega), List.drop_eq_nil_of_le (by omega)]; rfl
theorem has_at {l : List Int} (hl : l.length ≤ 100) (id : Int) {k : Nat} (hk : 200 ≤ k) : P.skiarealaw16_has.f k l id = some (l.any (fun y => y == id)) := by
  unfold P.skiarealaw16_has.f
  have := has_l0 l id hl l.length 0 k (by omega) (by omega) (by omega)
  simpa using this
/-- A contact with this ID is among the faults just if it is faulty. -/
theorem has_fault {l : List P.S48} {key : Int} (hV : V l key) {i : Nat} (hi : i < l.length) (t : Int) : (faultR l t).any (fun y => y == (G l i).f0) = flt t (G l i) := by
  rw [Bool.eq_iff_iff, List.any_eq_true]
  unfold faultR
  constructor
  · rintro ⟨y, hy, he⟩
    obtain ⟨x, hx, rfl⟩ := List.mem_map.1 hy
    obtain ⟨hx1, hx2⟩ := List.mem_filter.1 hx
    obtain ⟨j, hj, rfl⟩ := List.getElem_of_mem hx1
    rw [G_at hj] at he hx2
    have := uniq hV hj hi (beq_iff_eq.1 he)
    subst this
    exact hx2
  · intro h
    refine ⟨(G l i).f0, List.mem_map.2 ⟨G l i, List.mem_filter.2 ⟨?_, h⟩, rfl⟩, beq_self_eq_true _⟩
    rw [← G_at hi]; exact List.getElem_mem hi
/-- What is told of the state: the contact i, whether it was reset last, whether it was bypassed past t. -/
def Inv (now : List P.S48) (key id t : Int) (reset byp : Bool) : Prop :=
  V now key ∧ ∃ i : Nat, i < now.length ∧ (G now i).f0 = id ∧ (reset = true → (G now i).f2 = true ∧ (G now i).f3 = false) ∧ (reset = false → (G now i).f3 = true) ∧ (t < (G now i).f4 → byp = true) ∧ (t < 0 → byp = true)
theorem Inv.end_ {now : List P.S48} {key id t : Int} {reset byp : Bool} (h : Inv now key id t reset byp) : (if (faultR now t).any (fun y => y == id) = true then some (!reset) else if reset = true then some true else some byp) = some true := by
  obtain ⟨hV, i, hi, rfl, h1, h2, h3, h4⟩ := h
  rw [has_fault hV hi]
  unfold flt
  cases reset with
  | true =>
    obtain ⟨a, b⟩ := h1 rfl
    rw [a, b]; simp
  | false =>
    rw [h2 rfl]
    by_cases e : (G now i).f4 ≤ t
    · rw [decide_eq_true e]; rfl
    · rw [decide_eq_false e, h3 (by omega)]; rfl
theorem Inv.same {now : List P.S48} {key id t : Int} {reset byp : Bool} (h : Inv now key id t reset byp) {kind oid who tm : Int} {r : List P.S48 × Int × Bool} (D : Did now key kind oid who tm r)
    (hn : r.2.2 = false ∨ oid ≠ id) : Inv r.1 r.2.1 id t reset byp := by
  obtain ⟨hV, i, hi, hid, h1, h2, h3, h4⟩ := h
  refine ⟨D.v, i, by rw [D.keep.1]; exact hi, by rw [(D.keep.2 i hi).1]; exact hid, ?_⟩
  rcases hn with hn | hn
  · rw [D.no hn]; exact ⟨h1, h2, h3, h4⟩
  · obtain ⟨e2, e3, e4⟩ := D.far i hi (by rw [hid]; exact fun e => hn e.symm)
    rw [e2, e3]
    refine ⟨h1, h2, fun q => ?_, h4⟩
    rcases e4 with e4 | e4
    · rw [e4] at q; exact h3 q
    · rw [e4] at q; exact h4 q
theorem int_l1 (id : Int) (l : List P.S45) (t : Int) (hl : l.length ≤ 30) : ∀ (n j k : Nat) (now : List P.S48) (key : Int) (reset byp : Bool), l.length - j ≤ n → j ≤ l.length → 2 * n + 500 < k → Inv now key id t reset byp →
    P.skiarealaw16_ChainInterrupts.l1 k id l t reset byp (j : Int) now key = some true := by
  intro n
  induction n with
  | zero =>
    intro j k now key reset byp h1 h2 h3 hI
    obtain ⟨k, rfl⟩ : ∃ q, k = q + 1 := ⟨k - 1, by omega⟩
    have hnl := hI.1.1
    have hf := faultR_length now t
    unfold P.skiarealaw16_ChainInterrupts.l1
    try dsimp only
    rw [if_neg (show ¬ ((j : Int) < l.length) by omega), faults_at (by omega) _ _ (by omega), Option.bind_some, has_at (by omega) _ (by omega), Option.bind_some]
    exact hI.end_
  | succ n ih =>
    intro j k now key reset byp h1 h2 h3 hI
    obtain ⟨k, rfl⟩ : ∃ q, k = q + 2 := ⟨k - 2, by omega⟩
    have hnl := hI.1.1
    have hf := faultR_length now t
    unfold P.skiarealaw16_ChainInterrupts.l1
    try dsimp only
    by_cases h : j < l.length
    · have hw : wrap64 ((j : Int) + 1) = ((j + 1 : Nat) : Int) := by rw [wrap_at (by omega) (by omega)]; omega
      rw [if_pos (show (j : Int) < l.length by omega), if_pos (show (0 : Int) ≤ j by omega), do_at (by omega) _ _ _ _ _ (by omega), Option.bind_some]
      obtain ⟨x, hx⟩ : ∃ x, P.rd_T45 l (j : Int) = x := ⟨_, rfl⟩
      rw [hx]
      have D := did hI.1 x.f0 x.f1 x.f2 x.f3
      generalize hr : doR now key x.f0 x.f1 x.f2 x.f3 = r at D ⊢
      have hj3 : ∀ z : Bool, (z = true → r.2.2 = false ∨ x.f1 ≠ id) → (z = false → r.2.2 = true ∧ x.f1 = id) → P.skiarealaw16_ChainInterrupts.j3 (k + 1) id l t reset byp (j : Int) key z r.1 r.2.1 = some true := by
        intro z hz1 hz2
        unfold P.skiarealaw16_ChainInterrupts.j3
        try dsimp only
        cases z with
        | true =>
          rw [if_pos rfl, hw]
          exact ih (j + 1) k _ _ _ _ (by omega) (by omega) (by omega) (hI.same D (hz1 rfl))
        | false =>
          obtain ⟨hd, hoid⟩ := hz2 rfl
          obtain ⟨hV, i, hi, hid, g1, g2, g3, g4⟩ := hI
          have ho : (G now i).f0 = x.f1 := by rw [hid, hoid]
          have hk0 : i < r.1.length := by rw [D.keep.1]; exact hi
          have hk1 : (G r.1 i).f0 = id := by rw [(D.keep.2 i hi).1]; exact hid
          have go : ∀ reset' byp' : Bool, ((reset' = true → (G r.1 i).f2 = true ∧ (G r.1 i).f3 = false) ∧ (reset' = false → (G r.1 i).f3 = true) ∧ (t < (G r.1 i).f4 → byp' = true) ∧ (t < 0 → byp' = true)) → P.skiarealaw16_ChainInterrupts.l1 k id l t reset' byp' ((j + 1 : Nat) : Int) r.1 r.2.1 = some true :=
            fun reset' byp' q => ih (j + 1) k _ _ _ _ (by omega) (by omega) (by omega) ⟨D.v, i, hk0, hk1, q⟩
          rw [if_neg (by decide), if_pos (show (0 : Int) ≤ j by omega), if_pos (show (j : Int) < l.length by omega), hx, hw]
          by_cases k0 : x.f0 = 0
          · rw [if_pos k0]
            obtain ⟨q3, q4⟩ := D.brk hd k0 i hi ho
            exact go _ _ ⟨fun e => (by cases e), fun _ => q3, by rw [q4]; exact g3, g4⟩
          rw [if_neg k0]
          by_cases k2 : x.f0 = 2
          · rw [if_pos k2]
            obtain ⟨q2, q3, q4⟩ := D.clr hd k2 i hi ho
            exact go _ _ ⟨fun _ => ⟨q2, q3⟩, fun e => (by cases e), by rw [q4]; exact g3, g4⟩
          rw [if_neg k2]
          by_cases k4 : x.f0 = 4
          · obtain ⟨a, b, c⟩ := D.byp hd k4
            obtain ⟨q2, q3, q4⟩ := c i hi ho
            rw [if_pos k4, if_neg (show ¬ key = 0 from by rw [← b]; exact a), if_pos b.symm]
            cases byp with
            | true =>
              rw [if_pos rfl]
              exact go _ _ ⟨by rw [q2, q3]; exact g1, by rw [q3]; exact g2, fun _ => rfl, fun _ => rfl⟩
            | false =>
              rw [if_neg (by decide)]
              exact go _ _ ⟨by rw [q2, q3]; exact g1, by rw [q3]; exact g2, by rw [q4]; exact fun e => decide_eq_true e, fun e => absurd (g4 e) (by decide)⟩
          · rw [if_neg k4]
            obtain ⟨q2, q3, q4⟩ := D.els hd k0 k2 k4 i hi
            refine go _ _ ⟨fun e => ⟨?_, by rw [q3]; exact (g1 e).2⟩, by rw [q3]; exact g2, fun e => ?_, g4⟩
            · rcases q2 with q2 | q2
              · rw [q2]; exact (g1 e).1
              · exact q2
            · rcases q4 with q4 | q4
              · rw [q4] at e; exact g3 e
              · rw [q4] at e; exact g4 e
      by_cases hd : r.2.2 = true
      · rw [if_pos hd]
        exact hj3 _ (fun h => .inr (bne_iff_ne.1 h)) (fun h => ⟨hd, bne_eq_false_iff_eq.1 h⟩)
      · rw [if_neg hd]
        exact hj3 _ (fun _ => .inl (by simpa using hd)) (fun h => by cases h)
    · rw [if_neg (show ¬ ((j : Int) < l.length) by omega), faults_at (by omega) _ _ (by omega), Option.bind_some, has_at (by omega) _ (by omega), Option.bind_some]
      exact hI.end_
theorem int_l0 (id : Int) (x2 : List P.S45) (t : Int) (now : List P.S48) (hl : now.length ≤ 100) (key : Int) (reset : Bool) : ∀ (n j k : Nat) (b : Bool), now.length - j = n → j ≤ now.length → n < k →
    P.skiarealaw16_ChainInterrupts.l0 k id x2 t reset b (j : Int) now key = P.skiarealaw16_ChainInterrupts.l1 (k - n - 1) id x2 t reset (b || (now.drop j).any (fun x => x.f0 == id && decide (t < x.f4))) 0 now key := by
  intro n
  induction n with
  | zero =>
    intro j k b h1 h2 h3
    obtain ⟨k, rfl⟩ : ∃ q, k = q + 1 := ⟨k - 1, by omega⟩
    conv => lhs; unfold P.skiarealaw16_ChainInterrupts.l0
    try dsimp only
    rw [if_neg (show ¬ ((j : Int) < now.length) by omega), List.drop_eq_nil_of_le (by omega), show k + 1 - 0 - 1 = k by omega]; simp
  | succ n ih =>
    intro j k b h1 h2 h3
    obtain ⟨k, rfl⟩ : ∃ q, k = q + 1 := ⟨k - 1, by omega⟩
    have h : j < now.length := by omega
    conv => lhs; unfold P.skiarealaw16_ChainInterrupts.l0
    try dsimp only
    have hw : wrap64 ((j : Int) + 1) = ((j + 1 : Nat) : Int) := by rw [wrap_at (by omega) (by omega)]; omega
    rw [if_pos (show (j : Int) < now.length by omega), if_pos (show (0 : Int) ≤ j by omega), hw, rdl h, List.drop_eq_getElem_cons h, List.any_cons, show k + 1 - (n + 1) - 1 = k - n - 1 by omega]
    cases b with
    | true => rw [if_pos rfl, ih (j + 1) k true (by omega) (by omega) (by omega)]; simp
    | false =>
      rw [if_neg (by decide)]
      by_cases e : now[j].f0 = id
      · rw [if_pos e, ih (j + 1) k _ (by omega) (by omega) (by omega), beq_iff_eq.2 e, Bool.true_and, Bool.false_or]
      · rw [if_neg e, ih (j + 1) k _ (by omega) (by omega) (by omega), beq_eq_false_iff_ne.2 e, Bool.false_and, Bool.false_or, Bool.false_or]
theorem ChainInterrupts (l0_0 : List (P.S48)) (a0_1 : Int) (a1 : Int) (l2 : List (P.S45)) (a3 : Int) (w0_0 : ∀ x ∈ l0_0, ok48 x) (y0_0 : l0_0.length ≤ 9223372036854775807) (w0_1 : I64 a0_1) (w1 : I64 a1) (w2 : ∀ x ∈ l2, ok45 x) (y2 : l2.length ≤ 9223372036854775807) (w3 : I64 a3) : ∃ k, P.skiarealaw16_ChainInterrupts.f k l0_0 a0_1 a1 l2 a3 = some true := by
  obtain ⟨k, hk⟩ : ∃ k : Nat, k = 3000 := ⟨_, rfl⟩
  refine ⟨k, ?_⟩
  unfold P.skiarealaw16_ChainInterrupts.f
  rw [alive_at (by omega), Option.bind_some, if_pos rfl]
  have hj : ∀ b : Bool, (b = false → l2.length ≤ 30 ∧ V l0_0 a0_1) → P.skiarealaw16_ChainInterrupts.j0 k a1 l2 a3 b l0_0 a0_1 = some true := by
    intro b hb
    obtain ⟨k, rfl⟩ : ∃ q, k = q + 1 := ⟨k - 1, by omega⟩
    unfold P.skiarealaw16_ChainInterrupts.j0
    try dsimp only
    cases b with
    | true => rfl
    | false =>
      obtain ⟨hl, hV⟩ := hb rfl
      have hl0 := hV.1
      rw [if_neg (by decide), do_at (by omega) _ _ _ _ _ (by omega), Option.bind_some]
      have D := did hV 0 a1 0 0
      have hex : (doR l0_0 a0_1 0 a1 0 0).2.2 = true → ∃ i : Nat, i < l0_0.length ∧ (G l0_0 i).f0 = a1 := by
        intro h
        rcases ix_range l0_0 a1 with e | ⟨j, hj, e, q⟩
        · exfalso
          unfold doR breakR at h
          rw [if_pos rfl, e, if_pos (show (-1 : Int) < 0 by decide), if_neg (show ¬ ((8 : Int) = 0) by decide)] at h
          cases h
        · exact ⟨j, hj, by rw [← G_at hj]; exact q⟩
      generalize doR l0_0 a0_1 0 a1 0 0 = r at D hex ⊢
      by_cases hd : r.2.2 = true
      · have hl1 := D.v.1
        rw [if_pos hd]
        have e0 := int_l0 a1 l2 a3 r.1 (by omega) r.2.1 false r.1.length 0 k false (by omega) (by omega) (by omega)
        rw [show ((0 : Nat) : Int) = 0 from rfl] at e0
        rw [e0, List.drop_zero, Bool.false_or]
        obtain ⟨i, hi, hid⟩ := hex hd
        obtain ⟨q3, q4⟩ := D.brk hd rfl i hi hid
        have hi' : i < r.1.length := by rw [D.keep.1]; exact hi
        have hid' : (G r.1 i).f0 = a1 := by rw [(D.keep.2 i hi).1]; exact hid
        have hm : G r.1 i ∈ r.1 := by rw [← G_at hi']; exact List.getElem_mem hi'
        have hb : a3 < (G r.1 i).f4 → (r.1.any (fun x => x.f0 == a1 && decide (a3 < x.f4))) = true := fun q => List.any_eq_true.2 ⟨_, hm, by rw [beq_iff_eq.2 hid', decide_eq_true q]; rfl⟩
        have h0 := (((VG r.1 r.2.1).1 D.v).2.2.2.1 i hi').2.2.1
        have := int_l1 a1 l2 a3 hl l2.length 0 (k - r.1.length - 1) r.1 r.2.1 false _ (by omega) (by omega) (by omega) ⟨D.v, i, hi', hid', fun e => (by cases e), fun _ => q3, hb, fun q => hb (by omega)⟩
        exact this
      · rw [if_neg hd]
  by_cases hl : l0_0.length > 32
  · rw [right_long hl, Option.bind_some, if_neg (by decide), hj _ (fun h => by cases h)]
  rw [right_at (by omega) a0_1 (by omega), Option.bind_some]
  by_cases h : rg l0_0 a0_1 = 0
  · rw [if_pos h]
    exact hj _ (fun hb => ⟨by have := of_decide_eq_false hb; omega, (rg_V _ _).1 h⟩)
  · rw [if_neg h, hj _ (fun h => by cases h)]
end Go.Proofs.Yteepdedbldnccaa.Pure
