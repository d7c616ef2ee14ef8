/- The plain law of RopeRound: the printed function answers true for every line. -/
import Derived.Test.YtkehcgjdgfopdaaRopeChar
import Derived.Test.YtkehcgjdgfopdaaPx32
namespace Go.Proofs.Ytkehcgjdgfopdaa.Pure
set_option linter.unusedVariables false
set_option linter.unusedSimpArgs false
open Go.RowKit Go.Proofs.YtkehcgjdgfopdaaW.PrintWords Go.Proofs.YtkehcgjdgfopdaaW.PrintLast Go.Proofs.YtkehcgjdgfopdaaW.PrintMore Go.Proofs.Ytkehcgjdgfopdaa
/-- Positions by places: a carrier at place x of n. -/
theorem pos_place {lp sp off : Int} {n : Nat} (h : VL lp sp off n) (i : Int) : pos lp sp off i = ((off / sp + i) % (n : Int)) * sp + off % sp := by
  obtain ⟨h1, h2, h3, h4, h5, h6, h7, h8⟩ := h
  have hn : (0 : Int) < n := by omega
  have e : off + i * sp = (off / sp + i) * sp + off % sp := by
    have := Int.mul_ediv_add_emod off sp
    rw [Int.add_mul, Int.mul_comm (off / sp) sp]; omega
  have hr0 : 0 ≤ off % sp := Int.emod_nonneg _ (by omega)
  have hr1 : off % sp < sp := Int.emod_lt_of_pos _ (by omega)
  generalize off / sp + i = m at e ⊢
  have hm0 : 0 ≤ m % (n : Int) := Int.emod_nonneg _ (by omega)
  have hm1 : m % (n : Int) < n := Int.emod_lt_of_pos _ hn
  have hm := Int.mul_ediv_add_emod m (n : Int)
  unfold pos
  rw [e, h5]
  have e2 : m * sp + off % sp = (m % (n : Int) * sp + off % sp) + sp * (n : Int) * (m / (n : Int)) := by
    have e3 : m * sp = m % (n : Int) * sp + sp * (n : Int) * (m / (n : Int)) := by
      rw [Int.mul_assoc, Int.mul_comm sp, ← Int.add_mul]
      congr 1; omega
    omega
  have hlt : (m % (n : Int) + 1) * sp ≤ n * sp := Int.mul_le_mul_of_nonneg_right (by omega) (by omega)
  rw [Int.add_mul, Int.one_mul, Int.mul_comm (n : Int)] at hlt
  have hnn : 0 ≤ m % (n : Int) * sp := Int.mul_nonneg hm0 (by omega)
  rw [e2, Int.add_mul_emod_self_left, Int.emod_eq_of_lt (by omega) (by omega)]
/-- At place n - 1 a carrier passes the lower station with a motion by Spacing, and only there. -/
theorem low_place {lp sp off : Int} {n : Nat} (h : VL lp sp off n) (j : Nat) : low lp sp off sp j ↔ (off / sp + j) % (n : Int) = n - 1 := by
  have hp := pos_place h (j : Int)
  obtain ⟨h1, h2, h3, h4, h5, h6, h7, h8⟩ := h
  have hr0 : 0 ≤ off % sp := Int.emod_nonneg _ (by omega)
  have hr1 : off % sp < sp := Int.emod_lt_of_pos _ (by omega)
  unfold low
  rw [hp, h5]
  have hm1 : (off / sp + j) % (n : Int) < n := Int.emod_lt_of_pos _ (by omega)
  generalize (off / sp + (j : Int)) % (n : Int) = x at hm1 ⊢
  constructor
  · intro h
    rcases Int.lt_or_le x (n - 1) with h' | h'
    · have : (x + 2) * sp ≤ (n : Int) * sp := Int.mul_le_mul_of_nonneg_right (by omega) (by omega)
      rw [Int.add_mul, Int.mul_comm (n : Int)] at this
      omega
    · omega
  · intro h
    subst h
    rw [Int.sub_mul, Int.one_mul, Int.mul_comm (n : Int)]
    omega
/-- The place of the rope behind t motions. -/
theorem place_next {sp off : Int} (hs : 0 < sp) : (off + sp) / sp = off / sp + 1 := by
  rw [Int.add_ediv_of_dvd_right (Int.dvd_refl sp), Int.ediv_self (by omega)]
theorem lastF_one {c : Nat → Prop} [DecidablePred c] : ∀ (n i : Nat) (p : Int) (j : Nat), i ≤ j → j < i + n → c j → (∀ j', i ≤ j' → j' < i + n → c j' → j' = j) → lastF c n i p = j
  | 0, _, _, _, h1, h2, _, _ => by omega
  | n + 1, i, p, j, h1, h2, hc, hu => by
    rw [lastF]
    by_cases hi : c i
    · rw [if_pos hi]
      obtain rfl := hu i (by omega) (by omega) hi
      exact lastF_none n (i + 1) _ (fun j' a b hj => by have := hu j' (by omega) (by omega) hj; omega)
    · rw [if_neg hi]
      rcases Nat.eq_or_lt_of_le h1 with h | h
      · subst h; exact absurd hc hi
      · exact lastF_one n (i + 1) p j (by omega) (by omega) hc (fun j' a b hj => hu j' (by omega) (by omega) hj)
where
  lastF_none {c : Nat → Prop} [DecidablePred c] : ∀ (n i : Nat) (p : Int), (∀ j', i ≤ j' → j' < i + n → ¬ c j') → lastF c n i p = p
  | 0, _, _, _ => rfl
  | n + 1, i, p, h => by rw [lastF, if_neg (h i (by omega) (by omega)), lastF_none n (i + 1) p (fun j a b => h j (by omega) (by omega))]
/-- Carrier j passed the lower station in one of the first t motions. -/
def Sn (q : Int) (n t j : Nat) : Prop := ∃ t' : Nat, t' < t ∧ (q + t' + j) % (n : Int) = n - 1
theorem emod_inj {n : Int} {a b : Int} (hn : 0 < n) (h : a % n = b % n) (h1 : a ≤ b) (h2 : b < a + n) : a = b := by
  have e1 := Int.mul_ediv_add_emod a n
  have e2 := Int.mul_ediv_add_emod b n
  have e3 : n * (b / n - a / n) = b - a := by rw [Int.mul_sub]; omega
  rcases Int.lt_trichotomy (b / n - a / n) 0 with h' | h' | h'
  · have : n * (b / n - a / n) ≤ n * (-1) := Int.mul_le_mul_of_nonneg_left (by omega) (by omega)
    omega
  · rw [h'] at e3; omega
  · have : n * 1 ≤ n * (b / n - a / n) := Int.mul_le_mul_of_nonneg_left (by omega) (by omega)
    omega
theorem people_of {lp sp off : Int} {l : List Int} (h : RL lp sp off l 16) {k : Nat} (hk : 200 < k) : P.rope_People.f k lp sp off l = some (ppl l) :=
  people_at (by have := h.1; unfold VL at this; omega) h.bb hk
/-- The carrier at place n - 1. -/
theorem who (m : Int) {n : Nat} (hn : 0 < n) : ∃ j : Nat, j < n ∧ (m + j) % (n : Int) = n - 1 := by
  have h0 : 0 ≤ ((n : Int) - 1 - m) % n := Int.emod_nonneg _ (by omega)
  have h1 : ((n : Int) - 1 - m) % n < n := Int.emod_lt_of_pos _ (by omega)
  refine ⟨(((n : Int) - 1 - m) % n).toNat, by omega, ?_⟩
  rw [Int.toNat_of_nonneg h0, Int.add_emod_emod, show m + ((n : Int) - 1 - m) = n - 1 by omega]
  exact Int.emod_eq_of_lt (by omega) (by omega)
theorem round_l0 {lp sp off : Int} {l : List Int} (h : RL lp sp off l 16) : ∀ (r t k : Nat) (all o : Int) (seen : List Bool) (lt : List Int), t + r = l.length → lt.length = l.length → seen.length = l.length → RL lp sp o lt 16 →
    o = (off + t * sp) % lp → (∀ j : Nat, j < l.length → (o / sp + j) % (l.length : Int) = (off / sp + t + j) % (l.length : Int)) →
    (∀ j : Nat, j < l.length → (seen.getD j false = true ↔ Sn (off / sp) l.length t j)) → (∀ j : Nat, j < l.length → Sn (off / sp) l.length t j → LD lt j = 0) → all + ppl lt = ppl l → 0 ≤ all → r + 600 ≤ k →
    P.skiarealaw17_RopeRound.l0 k all seen (t : Int) lp sp off l lp sp o lt = some true := by
  have hv := h.1
  have hbd := h.1.bounds
  have hl : l.length ≤ 200 ∧ 1 ≤ l.length ∧ 5000 ≤ sp ∧ sp ≤ 1000000 := by unfold VL at hv; omega
  have hlp : lp = sp * l.length := hv.2.2.2.2.1
  have hoff : 0 ≤ off ∧ off < lp := ⟨hv.2.2.2.2.2.2.1, hv.2.2.2.2.2.2.2⟩
  have hpr := ppl_range h
  intro r
  induction r with
  | zero =>
    intro t k all o seen lt ht hlt hsn hR ho hpl hS hZ ha ha0 hk
    obtain ⟨k, rfl⟩ : ∃ j, k = j + 1 := ⟨k - 1, by omega⟩
    have et : t = l.length := by omega
    rw [P.skiarealaw17_RopeRound.l0, if_neg (by omega)]
    have eo : o = off := by
      rw [ho, et, Int.mul_comm, ← hlp, Int.add_emod_right]
      exact Int.emod_eq_of_lt hoff.1 hoff.2
    have hz : ppl lt = 0 := by
      unfold ppl
      rw [hlt]
      have : sumF (LD lt) l.length 0 = sumF (fun _ => 0) l.length 0 := sumF_congr _ _ (fun j _ hj => by
        refine hZ j (by omega) ?_
        obtain ⟨t', h1, h2⟩ := who (off / sp + j) (n := l.length) (by omega)
        exact ⟨t', by omega, by rw [show off / sp + (t' : Int) + j = off / sp + j + t' by omega]; exact h2⟩)
      rw [this]
      have h0 : ∀ n i, sumF (fun _ => (0 : Int)) n i = 0 := by
        intro n
        induction n with
        | zero => intro i; rfl
        | succ n ih => intro i; rw [sumF, ih]; rfl
      exact h0 _ _
    rw [if_pos eo, people_of h (by omega), Option.bind_some, if_pos (by omega), people_of hR (by omega), Option.bind_some, hz]
    rfl
  | succ r ih =>
    intro t k all o seen lt ht hlt hsn hR ho hpl hS hZ ha ha0 hk
    obtain ⟨k, rfl⟩ : ∃ j, k = j + 1 := ⟨k - 1, by omega⟩
    have hvr := hR.1
    have hm := move_at hR.1 hR.bb (d := sp) (k := k) (by omega)
    rw [mv_eq ⟨by omega, by omega⟩] at hm
    rw [P.skiarealaw17_RopeRound.l0, if_pos (by omega), hm, Option.bind_some]
    dsimp only
    rw [if_pos rfl]
    -- the one carrier that passes
    obtain ⟨j, hj, hjp⟩ := who (off / sp + t) (n := l.length) (by omega)
    have hlow : ∀ j' : Nat, j' < l.length → (low lp sp o sp j' ↔ (off / sp + t + j') % (l.length : Int) = l.length - 1) := by
      intro j' hj'
      have := low_place hR.1 j'
      rw [hlt] at this
      rw [this, hpl j' hj']
    have hone : lastF (low lp sp o sp) lt.length 0 (-1) = j := by
      rw [hlt]
      refine lastF_one _ _ _ j (by omega) (by omega) ((hlow j hj).2 hjp) (fun j' _ hj' hc => ?_)
      have e := ((hlow j' (by omega)).1 hc).trans hjp.symm
      rcases Int.le_total (j' : Int) j with h' | h'
      · have := emod_inj (by omega) e (by omega) (by omega); omega
      · have := emod_inj (by omega) e.symm (by omega) (by omega); omega
    have hns : ¬ Sn (off / sp) l.length t j := by
      rintro ⟨t', h1, h2⟩
      have := emod_inj (n := l.length) (a := off / sp + t' + j) (b := off / sp + t + j) (by omega) (h2.trans hjp.symm) (by omega) (by omega)
      omega
    have hget : rdOf false seen ((j : Nat) : Int) = seen.getD j false := by unfold rdOf; rw [Int.toNat_natCast]
    have hlf := lf1_range (d := sp) hR (seats := 0)
    have hpm := ppl_move (lp := lp) (sp := sp) (off := o) (d := sp) (l := lt)
    have hR' := hR.move (d := sp) (by omega) ⟨by omega, by omega⟩
    have hpr' := ppl_range hR'
    rw [hone, if_neg (by omega), if_neg (by omega), if_pos (by omega), if_pos (by omega), hget, if_neg (fun hh => hns ((hS j hj).1 hh)), wrap_at (x := all + _) (by omega) (by omega), wrap_at (x := (t : Int) + 1) (by omega) (by omega), Int.toNat_natCast, show ((t : Int) + 1) = ((t + 1 : Nat) : Int) by omega]
    have ho' : (o + sp) % lp = (off + ((t + 1 : Nat) : Int) * sp) % lp := by
      rw [ho, Int.emod_add_emod]
      congr 1
      rw [Int.natCast_add, Int.add_mul]; simp; omega
    -- places
    have hpl' : ∀ j' : Nat, j' < l.length → ((o + sp) % lp / sp + j') % (l.length : Int) = (off / sp + ((t + 1 : Nat) : Int) + j') % (l.length : Int) := by
      intro j' hj'
      have e0 := hpl j' hj'
      have hod : 0 ≤ o ∧ o < lp := ⟨hvr.2.2.2.2.2.2.1, hvr.2.2.2.2.2.2.2⟩
      have e1 : ((o + sp) % lp / sp) % (l.length : Int) = (o / sp + 1) % (l.length : Int) := by
        by_cases hc : o + sp < lp
        · rw [Int.emod_eq_of_lt (by omega) hc, place_next (by omega)]
        · have : (o + sp) % lp = o + sp - lp := by rw [← Int.sub_emod_right, Int.emod_eq_of_lt (by omega) (by omega)]
          rw [this, hlp, show o + sp - sp * (l.length : Int) = o + sp + sp * (-(l.length : Int)) by rw [Int.mul_neg]; omega, Int.add_mul_ediv_left _ _ (by omega), place_next (by omega), ← Int.sub_eq_add_neg, Int.sub_emod_right]
      rw [← Int.emod_add_emod, e1, Int.emod_add_emod, show o / sp + 1 + (j' : Int) = o / sp + j' + 1 by omega, ← Int.emod_add_emod, e0, Int.emod_add_emod]
      congr 1; omega
    refine ih (t + 1) k _ _ _ _ (by omega) (by rw [ld1_length]; exact hlt) (by rw [List.length_set]; exact hsn) hR' ho' hpl' ?_ ?_ (by omega) (by omega) (by omega)
    · intro j' hj'
      by_cases he : j' = j
      · subst he
        rw [List.getD_eq_getElem?_getD, List.getElem?_set_self (by omega)]
        simp only [Option.getD_some, true_iff]
        exact ⟨t, by omega, hjp⟩
      · rw [List.getD_eq_getElem?_getD, List.getElem?_set_ne (fun hh => he hh.symm), ← List.getD_eq_getElem?_getD, hS j' hj']
        constructor
        · rintro ⟨t', a, b⟩; exact ⟨t', by omega, b⟩
        · rintro ⟨t', a, b⟩
          rcases Nat.lt_or_ge t' t with h' | h'
          · exact ⟨t', h', b⟩
          · exfalso
            have : t' = t := by omega
            subst this
            have e := b.trans hjp.symm
            rcases Int.le_total (j' : Int) j with h'' | h''
            · have := emod_inj (by omega) e (by omega) (by omega); omega
            · have := emod_inj (by omega) e.symm (by omega) (by omega); omega
    · intro j' hj' hs
      rw [ld1_at _ _ _ _ _ (by omega)]
      obtain ⟨t', a, b⟩ := hs
      rcases Nat.lt_or_ge t' t with h' | h'
      · rw [hZ j' hj' ⟨t', h', b⟩]; split <;> rfl
      · have : t' = t := by omega
        subst this
        have hlw := (hlow j' hj').2 b
        by_cases hu : up lp sp o sp j'
        · rw [if_pos hu]
        · rw [if_neg hu]
          have hld := hR.ld (i := j') (by omega)
          unfold up at hu
          unfold low at hlw
          omega
theorem RopeRound (a0_0 : Int) (a0_1 : Int) (a0_2 : Int) (l0_3 : List Int) (w0_0 : I64 a0_0) (w0_1 : I64 a0_1) (w0_2 : I64 a0_2) (w0_3 : ∀ x ∈ l0_3, I64 x) (y0_3 : l0_3.length ≤ 9223372036854775807) : ∃ k, P.skiarealaw17_RopeRound.f k a0_0 a0_1 a0_2 l0_3 = some true := by
  obtain ⟨k, hk⟩ : ∃ k : Nat, k = 2000 := ⟨_, rfl⟩
  refine ⟨k, ?_⟩
  unfold P.skiarealaw17_RopeRound.f
  rw [alive_at (by omega), Option.bind_some, if_pos rfl, lright_at w0_0 w0_1 w0_2 (by omega), Option.bind_some]
  by_cases h : RL a0_0 a0_1 a0_2 l0_3 16
  · have hv := h.1
    have hl : l0_3.length ≤ 200 := by unfold VL at hv; omega
    rw [decide_eq_true h, if_pos rfl, if_pos (by omega), if_pos (by omega), Int.toNat_natCast]
    have key := round_l0 h l0_3.length 0 k 0 a0_2 (List.replicate l0_3.length false) l0_3 (by omega) rfl (by simp) h
      (by rw [Int.natCast_zero, Int.zero_mul, Int.add_zero]; exact (Int.emod_eq_of_lt hv.2.2.2.2.2.2.1 hv.2.2.2.2.2.2.2).symm)
      (fun j _ => by rw [Int.natCast_zero, Int.add_zero])
      (fun j hj => by
        rw [List.getD_eq_getElem?_getD, List.getElem?_replicate, if_pos hj]
        simp only [Option.getD_some, Bool.false_eq_true, false_iff]
        rintro ⟨t', a, _⟩; omega)
      (fun j _ hs => by obtain ⟨t', a, _⟩ := hs; omega)
      (by omega) (by omega) (by omega)
    exact key
  · rw [decide_eq_false h, if_neg (by decide)]
end Go.Proofs.Ytkehcgjdgfopdaa.Pure
