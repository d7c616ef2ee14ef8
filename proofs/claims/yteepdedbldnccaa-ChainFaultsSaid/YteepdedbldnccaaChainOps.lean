/- The safety chain: what its operations answer, on both sides. -/
import Derived.Test.YteepdedbldnccaaChain
import Derived.Test.YteepdedbldnccaaPx12
import Derived.Test.YteepdedbldnccaaPx13
import Derived.Test.YteepdedbldnccaaPx14
import Derived.Test.YteepdedbldnccaaPx15
import Derived.Test.YteepdedbldnccaaPx16
import Derived.Test.YteepdedbldnccaaPx29
import Derived.Test.YteepdedbldnccaaPx30
import Derived.Test.YteepdedbldnccaaPx32
import Derived.Test.YteepdedbldnccaaPx34
namespace Go.Proofs.Yteepdedbldnccaa.Pure
set_option linter.unusedVariables false
set_option linter.unusedSimpArgs false
open Go.RowKit Go.Proofs.YteepdedbldnccaaW.PrintWords Go.Proofs.YteepdedbldnccaaW.PrintLast Go.Proofs.YteepdedbldnccaaW.PrintMore Go.Proofs.Yteepdedbldnccaa
/-- A list with x in place of the element i (of none, if i is negative). -/
def repl : List P.S48 → Int → P.S48 → List P.S48
  | [], _, _ => []
  | y :: l, i, x => (if i = 0 then x else y) :: repl l (i - 1) x
theorem repl_neg (l : List P.S48) (x : P.S48) : ∀ i : Int, i < 0 → repl l i x = l := by
  induction l with
  | nil => intro i _; rfl
  | cons y l ih => intro i h; unfold repl; rw [if_neg (by omega), ih (i - 1) (by omega)]
theorem repl_set (l : List P.S48) (x : P.S48) : ∀ i : Nat, repl l (i : Int) x = l.set i x := by
  induction l with
  | nil => intro i; rfl
  | cons y l ih =>
    intro i
    unfold repl
    cases i with
    | zero => rw [if_pos (by omega), repl_neg l x _ (by omega)]; rfl
    | succ i => rw [if_neg (by omega), show ((i + 1 : Nat) : Int) - 1 = (i : Int) from by omega, ih i]; rfl
theorem repl_length (l : List P.S48) (x : P.S48) : ∀ i : Int, (repl l i x).length = l.length := by
  induction l with
  | nil => intro i; rfl
  | cons y l ih => intro i; unfold repl; simp [ih]
theorem with_l0 (l : List P.S48) (hl : l.length ≤ 100) (key i : Int) (x : P.S48) : ∀ (n j k : Nat) (acc : List P.S48) (key' : Int), l.length - j ≤ n → j ≤ l.length → n < k → acc.length ≤ j →
    P.skiarearef16_with.l0 k i (j : Int) l key x.f0 x.f1 x.f2 x.f3 x.f4 acc key' = some (acc ++ repl (l.drop j) (i - j) x, key') := by
  intro n
  induction n with
  | zero =>
    intro j k acc key' h1 h2 h3 h4
    obtain ⟨k, rfl⟩ : ∃ q, k = q + 1 := ⟨k - 1, by omega⟩
    unfold P.skiarearef16_with.l0
    rw [if_neg (by omega), List.drop_eq_nil_of_le (by omega)]; simp [repl]
  | succ n ih =>
    intro j k acc key' h1 h2 h3 h4
    obtain ⟨k, rfl⟩ : ∃ q, k = q + 1 := ⟨k - 1, by omega⟩
    unfold P.skiarearef16_with.l0
    by_cases h : j < l.length
    · rw [if_pos (by omega), rdl h, List.drop_eq_getElem_cons h, repl]
      have hw : wrap64 ((j : Int) + 1) = ((j + 1 : Nat) : Int) := by rw [wrap_at (by omega) (by omega)]; omega
      by_cases e : (j : Int) = i
      · rw [if_pos e, if_pos (show acc.length < 5864062014805 by omega), hw, ih (j + 1) k _ key' (by omega) (by omega) (by omega) (by simp; omega), if_pos (by omega)]
        rw [List.append_assoc, List.singleton_append, show i - (j : Int) - 1 = i - ((j + 1 : Nat) : Int) from by omega]
      · rw [if_neg e, if_pos (by omega), if_pos (show acc.length < 5864062014805 by omega), hw, ih (j + 1) k _ key' (by omega) (by omega) (by omega) (by simp; omega), if_neg (by omega)]
        rw [List.append_assoc, List.singleton_append, show i - (j : Int) - 1 = i - ((j + 1 : Nat) : Int) from by omega]
    · rw [if_neg (by omega), List.drop_eq_nil_of_le (by omega)]; simp [repl]
theorem with_at {l : List P.S48} (hl : l.length ≤ 100) (key i : Int) (f0 : Int) (f1 f2 f3 : Bool) (f4 : Int) {k : Nat} (hk : 200 ≤ k) : P.skiarearef16_with.f k l key i f0 f1 f2 f3 f4 = some (repl l i ⟨f0, f1, f2, f3, f4⟩, key) := by
  unfold P.skiarearef16_with.f
  have := with_l0 l hl key i ⟨f0, f1, f2, f3, f4⟩ l.length 0 k [] key (by omega) (by omega) (by omega) (by simp)
  simpa using this
theorem same_l0 (l : List P.S48) (hl : l.length ≤ 100) (a b : Int) : ∀ (n j k : Nat), l.length - j ≤ n → j ≤ l.length → n < k → P.skiarearef16_Same.l0 k (j : Int) l a l b = some true := by
  intro n
  induction n with
  | zero =>
    intro j k h1 h2 h3
    obtain ⟨k, rfl⟩ : ∃ q, k = q + 1 := ⟨k - 1, by omega⟩
    unfold P.skiarearef16_Same.l0
    try dsimp only
    rw [if_neg (by omega)]
  | succ n ih =>
    intro j k h1 h2 h3
    obtain ⟨k, rfl⟩ : ∃ q, k = q + 1 := ⟨k - 1, by omega⟩
    unfold P.skiarearef16_Same.l0
    try dsimp only
    by_cases h : j < l.length
    · rw [if_pos (by omega), if_pos (by omega), if_pos (by omega), if_neg (by simp), wrap_at (by omega) (by omega), show ((j : Int) + 1) = ((j + 1 : Nat) : Int) from by omega]
      exact ih (j + 1) k (by omega) (by omega) (by omega)
    · rw [if_neg (by omega)]
theorem same_at {l : List P.S48} (hl : l.length ≤ 100) (a : Int) {k : Nat} (hk : 200 ≤ k) : P.skiarearef16_Same.f k l a l a = some true := by
  unfold P.skiarearef16_Same.f
  rw [if_pos rfl]
  obtain ⟨k, rfl⟩ : ∃ q, k = q + 1 := ⟨k - 1, by omega⟩
  unfold P.skiarearef16_Same.j0
  try dsimp only
  rw [if_neg (by simp)]
  exact same_l0 l hl a a l.length 0 k (by omega) (by omega) (by omega)
theorem ints_l0 (l : List Int) (hl : l.length ≤ 100) : ∀ (n j k : Nat), l.length - j ≤ n → j ≤ l.length → n < k → P.skiarearef16_SameInts.l0 k l l (j : Int) = some true := by
  intro n
  induction n with
  | zero =>
    intro j k h1 h2 h3
    obtain ⟨k, rfl⟩ : ∃ q, k = q + 1 := ⟨k - 1, by omega⟩
    unfold P.skiarearef16_SameInts.l0
    rw [if_neg (by omega)]
  | succ n ih =>
    intro j k h1 h2 h3
    obtain ⟨k, rfl⟩ : ∃ q, k = q + 1 := ⟨k - 1, by omega⟩
    unfold P.skiarearef16_SameInts.l0
    by_cases h : j < l.length
    · rw [if_pos (by omega), if_pos (by omega), if_pos (by omega), if_pos rfl, wrap_at (by omega) (by omega), show ((j : Int) + 1) = ((j + 1 : Nat) : Int) from by omega]
      exact ih (j + 1) k (by omega) (by omega) (by omega)
    · rw [if_neg (by omega)]
theorem ints_at {l : List Int} (hl : l.length ≤ 100) {k : Nat} (hk : 200 ≤ k) : P.skiarearef16_SameInts.f k l l = some true := by
  unfold P.skiarearef16_SameInts.f
  rw [if_pos rfl]
  exact ints_l0 l hl l.length 0 k (by omega) (by omega) (by omega)
/-- The index of a contact: none, or that of one. -/
theorem ix_range (l : List P.S48) (id : Int) : ix l id 0 = -1 ∨ ∃ j : Nat, ∃ h : j < l.length, ix l id 0 = (j : Int) ∧ l[j].f0 = id := by
  rcases ix_cases l id 0 with ⟨e, _⟩ | ⟨j, hj, e, q⟩
  · exact .inl e
  · exact .inr ⟨j, hj, by rw [e]; omega, q⟩
/-- A contact's field put, in the list. -/
def brk (x : P.S48) : P.S48 := ⟨x.f0, x.f1, false, true, x.f4⟩
def mak (x : P.S48) : P.S48 := ⟨x.f0, x.f1, true, x.f3, x.f4⟩
def clr (x : P.S48) : P.S48 := ⟨x.f0, x.f1, x.f2, false, x.f4⟩
def unt (u : Int) (x : P.S48) : P.S48 := ⟨x.f0, x.f1, x.f2, x.f3, u⟩
def breakR (l : List P.S48) (key id : Int) : List P.S48 × Int × Int := if ix l id 0 < 0 then ([], 0, 8) else (l.set (ix l id 0).toNat (brk (P.rd_T48 l (ix l id 0))), key, 0)
def makeR (l : List P.S48) (key id : Int) : List P.S48 × Int × Int := if ix l id 0 < 0 then ([], 0, 8) else (l.set (ix l id 0).toNat (mak (P.rd_T48 l (ix l id 0))), key, 0)
def clearR (l : List P.S48) (key id who : Int) : List P.S48 × Int × Int :=
  if ix l id 0 < 0 then ([], 0, 8) else if 1 ≤ who ∧ who ≤ 9999 then (if (P.rd_T48 l (ix l id 0)).f2 = true then (l.set (ix l id 0).toNat (clr (P.rd_T48 l (ix l id 0))), key, 0) else ([], 0, 10)) else ([], 0, 17)
theorem break_at {l : List P.S48} (hl : l.length ≤ 100) (key id : Int) : P.chain_Break.f l key id = some (breakR l key id) := by
  unfold P.chain_Break.f breakR
  rw [own_at hl, Option.bind_some]
  dsimp only
  rcases ix_range l id with e | ⟨j, hj, e, _⟩
  · rw [e, if_pos (by decide), if_pos (by decide)]
  · have h0 : ¬ ((j : Int) < 0) := by omega
    rw [e, if_neg h0, if_neg h0, if_pos (show (0 : Int) ≤ j by omega), if_pos (show (j : Int) < l.length by omega)]; rfl
theorem make_at {l : List P.S48} (hl : l.length ≤ 100) (key id : Int) : P.chain_Make.f l key id = some (makeR l key id) := by
  unfold P.chain_Make.f makeR
  rw [own_at hl, Option.bind_some]
  dsimp only
  rcases ix_range l id with e | ⟨j, hj, e, _⟩
  · rw [e, if_pos (by decide), if_pos (by decide)]
  · have h0 : ¬ ((j : Int) < 0) := by omega
    rw [e, if_neg h0, if_neg h0, if_pos (show (0 : Int) ≤ j by omega), if_pos (show (j : Int) < l.length by omega)]; rfl
theorem clear_at {l : List P.S48} (hl : l.length ≤ 100) (key id who : Int) : P.chain_Clear.f l key id who = some (clearR l key id who) := by
  unfold P.chain_Clear.f clearR
  rw [own_at hl, Option.bind_some]
  dsimp only
  rcases ix_range l id with e | ⟨j, hj, e, _⟩
  · rw [e, if_pos (by decide), if_pos (by decide)]
  · have h0 : ¬ ((j : Int) < 0) := by omega
    rw [e, if_neg h0, if_neg h0, person_at, Option.bind_some]
    by_cases hp : 1 ≤ who ∧ who ≤ 9999
    · rw [decide_eq_true hp, if_pos rfl, if_pos hp, if_pos (show (0 : Int) ≤ j by omega), if_pos (show (j : Int) < l.length by omega)]
      by_cases hc : (P.rd_T48 l (j : Int)).f2 = true
      · rw [if_pos hc, if_pos hc]; rfl
      · rw [if_neg hc, if_neg hc]
    · rw [decide_eq_false hp, if_neg (by decide), if_neg hp]
theorem rbreak_at {l : List P.S48} (hl : l.length ≤ 100) (key id : Int) {k : Nat} (hk : 200 ≤ k) : P.skiarearef16_Break.f k l key id = some (breakR l key id) := by
  unfold P.skiarearef16_Break.f breakR
  rw [index_at hl id hk, Option.bind_some]
  rcases ix_range l id with e | ⟨j, hj, e, _⟩
  · rw [e, if_pos (by decide), if_pos (by decide)]
  · have h0 : ¬ ((j : Int) < 0) := by omega
    rw [e, if_neg h0, if_neg h0, if_pos (show (0 : Int) ≤ j by omega), if_pos (show (j : Int) < l.length by omega), with_at hl _ _ _ _ _ _ _ hk, Option.bind_some, repl_set]; rfl
theorem rmake_at {l : List P.S48} (hl : l.length ≤ 100) (key id : Int) {k : Nat} (hk : 200 ≤ k) : P.skiarearef16_Make.f k l key id = some (makeR l key id) := by
  unfold P.skiarearef16_Make.f makeR
  rw [index_at hl id hk, Option.bind_some]
  rcases ix_range l id with e | ⟨j, hj, e, _⟩
  · rw [e, if_pos (by decide), if_pos (by decide)]
  · have h0 : ¬ ((j : Int) < 0) := by omega
    rw [e, if_neg h0, if_neg h0, if_pos (show (0 : Int) ≤ j by omega), if_pos (show (j : Int) < l.length by omega), with_at hl _ _ _ _ _ _ _ hk, Option.bind_some, repl_set]; rfl
theorem rclear_at {l : List P.S48} (hl : l.length ≤ 100) (key id who : Int) {k : Nat} (hk : 200 ≤ k) : P.skiarearef16_Clear.f k l key id who = some (clearR l key id who) := by
  unfold P.skiarearef16_Clear.f clearR
  rw [index_at hl id hk, Option.bind_some]
  rcases ix_range l id with e | ⟨j, hj, e, _⟩
  · rw [e, if_pos (by decide), if_pos (by decide)]
  · have h0 : ¬ ((j : Int) < 0) := by omega
    rw [e, if_neg h0, if_neg h0, if_pos (show (0 : Int) ≤ j by omega), if_pos (show (j : Int) < l.length by omega), in_at, Option.bind_some]
    by_cases hp : 1 ≤ who ∧ who ≤ 9999
    · rw [decide_eq_true hp, if_pos rfl, if_pos hp]
      by_cases hc : (P.rd_T48 l (j : Int)).f2 = true
      · rw [if_pos hc, if_pos hc, with_at hl _ _ _ _ _ _ _ hk, Option.bind_some, repl_set]; rfl
      · rw [if_neg hc, if_neg hc]
    · rw [decide_eq_false hp, if_neg (by decide), if_neg hp]
theorem breakR_length (l : List P.S48) (key id : Int) : (breakR l key id).1.length ≤ l.length := by unfold breakR; split <;> simp
theorem makeR_length (l : List P.S48) (key id : Int) : (makeR l key id).1.length ≤ l.length := by unfold makeR; split <;> simp
theorem clearR_length (l : List P.S48) (key id who : Int) : (clearR l key id who).1.length ≤ l.length := by
  unfold clearR; repeat' split
  all_goals simp
theorem rg_zero_length {l : List P.S48} {key : Int} (h : rg l key = 0) : l.length ≤ 32 := by
  unfold rg at h
  by_cases hl : l.length > 32
  · rw [if_pos hl] at h; omega
  · omega
end Go.Proofs.Yteepdedbldnccaa.Pure
