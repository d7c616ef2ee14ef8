/- The safety chain in plain Lean: what a right chain is, and what the printed functions of the program answer. -/
import Derived.Test.YteepdedbldnccaaOpen
import Derived.Test.YteepdedbldnccaaPx10
import Derived.Test.YteepdedbldnccaaPx12
import Derived.Test.YteepdedbldnccaaPx13
import Derived.Test.YteepdedbldnccaaPx14
import Derived.Test.YteepdedbldnccaaPx16
import Derived.Test.YteepdedbldnccaaPx18
import Derived.Test.YteepdedbldnccaaPx2
import Derived.Test.YteepdedbldnccaaPx3
import Derived.Test.YteepdedbldnccaaPx6
import Derived.Test.YteepdedbldnccaaPx7
import Derived.Test.YteepdedbldnccaaPx8
import Derived.Test.YteepdedbldnccaaPx9
namespace Go.Proofs.Yteepdedbldnccaa.Pure
set_option linter.unusedVariables false
set_option linter.unusedSimpArgs false
open Go.RowKit Go.Proofs.YteepdedbldnccaaW.PrintWords Go.Proofs.YteepdedbldnccaaW.PrintLast Go.Proofs.YteepdedbldnccaaW.PrintMore Go.Proofs.Yteepdedbldnccaa
def ok48 (x : P.S48) : Prop := I64 x.f0 ∧ True ∧ True ∧ True ∧ I64 x.f4
def ok45 (x : P.S45) : Prop := I64 x.f0 ∧ I64 x.f1 ∧ I64 x.f2 ∧ I64 x.f3
theorem wrap_at {x : Int} (h : -9223372036854775808 ≤ x) (h' : x ≤ 9223372036854775807) : wrap64 x = x := by unfold wrap64; omega
theorem alive_at {k : Nat} (hk : 60 ≤ k) : P.skiarealaw16_alive.f k = some true := by
  refine at_rounds (g := P.skiarealaw16_alive.f) P.skiarealaw16_alive.mono hk ?_
  decide +kernel
theorem person_at (a : Int) : P.chain_person.f a = some (decide (1 ≤ a ∧ a ≤ 9999)) := by
  unfold P.chain_person.f
  by_cases h : a ≥ 1
  · rw [if_pos h]; congr 1; simp only [decide_eq_decide]; omega
  · rw [if_neg h]; congr 1; symm; rw [decide_eq_false_iff_not]; omega
theorem rdl {l : List P.S48} {j : Nat} (h : j < l.length) : P.rd_T48 l (j : Int) = l[j] := by
  unfold P.rd_T48; rw [Int.toNat_natCast, List.getD_eq_getElem?_getD, List.getElem?_eq_getElem h]; rfl
theorem rdl' {l : List P.S48} {j : Int} (h0 : 0 ≤ j) (h : j < (l.length : Int)) : P.rd_T48 l j = l[j.toNat]'(by omega) := by
  obtain ⟨n, rfl⟩ := Int.eq_ofNat_of_zero_le h0
  exact rdl (by omega)
abbrev ix := P.chain_own.ix
theorem ix_cons (x : P.S48) (l : List P.S48) (id i : Int) : ix (x :: l) id i = if x.f0 = id then i else ix l id (i + 1) := rfl
theorem ix_nil (id i : Int) : ix [] id i = -1 := rfl
theorem ix_cases (l : List P.S48) (id : Int) : ∀ i : Int, (ix l id i = -1 ∧ ∀ x ∈ l, x.f0 ≠ id) ∨ (∃ j : Nat, ∃ h : j < l.length, ix l id i = i + j ∧ l[j].f0 = id) := by
  induction l with
  | nil => intro i; exact .inl ⟨rfl, by simp⟩
  | cons x l ih =>
    intro i
    rw [ix_cons]
    by_cases h : x.f0 = id
    · rw [if_pos h]; exact .inr ⟨0, by simp, by simp, h⟩
    · rw [if_neg h]
      rcases ih (i + 1) with ⟨e, q⟩ | ⟨j, hj, e, q⟩
      · exact .inl ⟨e, fun y hy => (List.mem_cons.1 hy).elim (fun h2 => h2 ▸ h) (q y)⟩
      · exact .inr ⟨j + 1, by simp; omega, by rw [e]; push_cast; omega, by simpa using q⟩
theorem own_at {l : List P.S48} (hl : l.length ≤ 100) (key id : Int) : P.chain_own.f l key id = some (l, key, ix l id 0) := by
  unfold P.chain_own.f; rw [if_pos (by omega)]
/-- The last three tests of a contact. -/
def tl (b : Bool) (key : Int) (crit closed latch : Bool) (until_ : Int) : Int :=
  if (!closed && !latch) = true then 10 else if (crit && until_ != 0) = true then 13 else if until_ = 0 then 0 else if key = 0 then 15 else if b = true then 15 else 0
def hasID (l : List P.S48) (id : Int) : Bool := l.any (fun y => y.f0 == id)
def hasBy (l : List P.S48) : Bool := l.any (fun y => y.f4 != 0)
theorem contact_j3 {k : Nat} (hk : 1 ≤ k) (b : Bool) (l : List P.S48) (key id : Int) (crit closed latch : Bool) (u : Int) (z : Bool) : P.chain_contact.j3 k b z l key id crit closed latch u = some (if z = true then 13 else if u = 0 then 0 else if key = 0 then 15 else if b = true then 15 else 0) := by
  obtain ⟨k, rfl⟩ : ∃ q, k = q + 1 := ⟨k - 1, by omega⟩
  unfold P.chain_contact.j3
  try dsimp only
  cases z with
  | true => rfl
  | false =>
    simp only [Bool.false_eq_true, if_false]
    by_cases h1 : u = 0
    · rw [if_pos h1, if_pos h1]
    rw [if_neg h1, if_neg h1]
    by_cases h2 : key = 0
    · rw [if_pos h2, if_pos h2]
    rw [if_neg h2, if_neg h2]
    cases b <;> rfl
theorem contact_j2 {k : Nat} (hk : 2 ≤ k) (b : Bool) (l : List P.S48) (key id : Int) (crit closed latch : Bool) (u : Int) (z : Bool) (hz : z = (!closed && !latch)) : P.chain_contact.j2 k b z l key id crit closed latch u = some (tl b key crit closed latch u) := by
  obtain ⟨k, rfl⟩ : ∃ q, k = q + 1 := ⟨k - 1, by omega⟩
  unfold P.chain_contact.j2 tl
  try dsimp only
  subst hz
  rw [contact_j3 (by omega), contact_j3 (by omega)]
  cases (!closed && !latch) <;> cases crit <;> simp only [Bool.true_and, Bool.false_and, if_true, Bool.false_eq_true, if_false] <;> (repeat' split) <;> rfl
theorem contact_l0 (l : List P.S48) (hl : l.length ≤ 100) (key id : Int) (crit closed latch : Bool) (u : Int) (i : Nat) (hi : i ≤ l.length) : ∀ (n j k : Nat) (b : Bool), i - j ≤ n → j ≤ i → n + 3 < k →
    P.chain_contact.l0 k b (i : Int) (j : Int) l key id crit closed latch u = some (if hasID ((l.take i).drop j) id = true then 7 else tl (b || hasBy ((l.take i).drop j)) key crit closed latch u) := by
  intro n
  induction n with
  | zero =>
    intro j k b h1 h2 h3
    obtain ⟨k, rfl⟩ : ∃ q, k = q + 1 := ⟨k - 1, by omega⟩
    unfold P.chain_contact.l0
    try dsimp only
    rw [if_neg (by omega), List.drop_eq_nil_of_le (by rw [List.length_take]; omega)]
    rw [show hasID [] id = false from rfl, show hasBy [] = false from rfl, Bool.or_false]
    cases hc : closed with
    | true => rw [if_pos rfl, contact_j2 (by omega) _ _ _ _ _ _ _ _ _ (by simp)]; rfl
    | false => rw [if_neg (by simp), contact_j2 (by omega) _ _ _ _ _ _ _ _ _ (by simp)]; rfl
  | succ n ih =>
    intro j k b h1 h2 h3
    by_cases h : j < i
    · obtain ⟨k, rfl⟩ : ∃ q, k = q + 1 := ⟨k - 1, by omega⟩
      unfold P.chain_contact.l0
      try dsimp only
      have hj : j < (l.take i).length := by rw [List.length_take]; omega
      rw [if_pos (by omega), if_pos (by omega), if_pos (by omega), rdl (by omega), List.drop_eq_getElem_cons hj]
      have hg : (l.take i)[j] = l[j]'(by omega) := by simp
      rw [hg]
      generalize l[j]'(by omega) = y
      rw [show hasID (y :: (l.take i).drop (j + 1)) id = ((y.f0 == id) || hasID ((l.take i).drop (j + 1)) id) from rfl, show hasBy (y :: (l.take i).drop (j + 1)) = ((y.f4 != 0) || hasBy ((l.take i).drop (j + 1))) from rfl]
      by_cases e : y.f0 = id
      · rw [if_pos e, show (y.f0 == id) = true from beq_iff_eq.2 e]; simp
      · rw [if_neg e, show (y.f0 == id) = false from beq_eq_false_iff_ne.2 e, Bool.false_or, wrap_at (by omega) (by omega), show ((j : Int) + 1) = ((j + 1 : Nat) : Int) from by omega]
        cases b with
        | true => rw [if_pos rfl, ih (j + 1) k true (by omega) (by omega) (by omega)]; simp
        | false => rw [if_neg (by decide), ih (j + 1) k _ (by omega) (by omega) (by omega)]; simp
    · have := ih j k b (by omega) h2 (by omega)
      exact this
/-- What the tests of a contact answer. -/
def cst (l : List P.S48) (key : Int) (i : Nat) : Int :=
  let x := P.rd_T48 l i
  if 1 ≤ x.f0 ∧ x.f0 ≤ 9999 ∧ 0 ≤ x.f4 ∧ x.f4 ≤ 20000000 then (if hasID (l.take i) x.f0 = true then 7 else tl (hasBy (l.take i)) key x.f1 x.f2 x.f3 x.f4) else 2
theorem contact_at {l : List P.S48} (hl : l.length ≤ 100) (key : Int) {i : Nat} (hi : i < l.length) {k : Nat} (hk : 200 ≤ k) : P.chain_contact.f k l key (i : Int) = some (cst l key i) := by
  have hj : ∀ b : Bool, P.chain_contact.j0 k (i : Int) b l key (P.rd_T48 l i).f0 (P.rd_T48 l i).f1 (P.rd_T48 l i).f2 (P.rd_T48 l i).f3 (P.rd_T48 l i).f4 = some (if b = true then 2 else (if hasID (l.take i) (P.rd_T48 l i).f0 = true then 7 else tl (hasBy (l.take i)) key (P.rd_T48 l i).f1 (P.rd_T48 l i).f2 (P.rd_T48 l i).f3 (P.rd_T48 l i).f4)) := by
    intro b
    obtain ⟨k, rfl⟩ : ∃ q, k = q + 1 := ⟨k - 1, by omega⟩
    unfold P.chain_contact.j0
    try dsimp only
    cases b with
    | true => rfl
    | false =>
      simp only [Bool.false_eq_true, if_false]
      have := contact_l0 l hl key (P.rd_T48 l i).f0 (P.rd_T48 l i).f1 (P.rd_T48 l i).f2 (P.rd_T48 l i).f3 (P.rd_T48 l i).f4 i (by omega) i 0 k false (by omega) (by omega) (by omega)
      simpa using this
  unfold P.chain_contact.f cst
  rw [if_pos (by omega), if_pos (by omega), hj, hj]
  dsimp only
  by_cases h1 : (P.rd_T48 l i).f0 < 1
  · rw [if_pos h1, if_pos rfl, if_neg (by omega)]
  rw [if_neg h1]
  by_cases h2 : (P.rd_T48 l i).f0 > 9999
  · rw [if_pos h2, if_pos rfl, if_neg (by omega)]
  rw [if_neg h2]
  by_cases h3 : (P.rd_T48 l i).f4 < 0
  · rw [if_pos h3, if_pos rfl, if_neg (by omega)]
  rw [if_neg h3]
  by_cases h4 : (P.rd_T48 l i).f4 > 20000000
  · rw [decide_eq_true h4, if_pos rfl, if_neg (by omega)]
  · have hc : 1 ≤ (P.rd_T48 l i).f0 ∧ (P.rd_T48 l i).f0 ≤ 9999 ∧ 0 ≤ (P.rd_T48 l i).f4 ∧ (P.rd_T48 l i).f4 ≤ 20000000 := by omega
    rw [decide_eq_false h4, if_neg (by decide), if_pos hc]
/-- The first error of the contacts from i on. -/
def rgN (l : List P.S48) (key : Int) : Nat → Nat → Int
  | 0, _ => 0
  | n + 1, i => if cst l key i = 0 then rgN l key n (i + 1) else cst l key i
def rg (l : List P.S48) (key : Int) : Int := if l.length > 32 then 4 else if 0 ≤ key ∧ key ≤ 9999 then rgN l key l.length 0 else 2
theorem right_l0 (l : List P.S48) (hl : l.length ≤ 100) (key : Int) : ∀ (n j k : Nat), l.length - j = n → j ≤ l.length → n + 200 < k → P.chain_Right.l0 k (l.length : Int) (j : Int) l key = some (rgN l key n j) := by
  intro n
  induction n with
  | zero =>
    intro j k h1 h2 h3
    obtain ⟨k, rfl⟩ : ∃ q, k = q + 1 := ⟨k - 1, by omega⟩
    unfold P.chain_Right.l0
    try dsimp only
    rw [if_neg (by omega)]; rfl
  | succ n ih =>
    intro j k h1 h2 h3
    obtain ⟨k, rfl⟩ : ∃ q, k = q + 1 := ⟨k - 1, by omega⟩
    unfold P.chain_Right.l0 rgN
    try dsimp only
    rw [if_pos (by omega), contact_at hl key (by omega) (by omega), Option.bind_some]
    by_cases e : cst l key j = 0
    · rw [if_pos e, if_pos e, wrap_at (by omega) (by omega), show ((j : Int) + 1) = ((j + 1 : Nat) : Int) from by omega, ih (j + 1) k (by omega) (by omega) (by omega)]
    · rw [if_neg e, if_neg e]
theorem right_at {l : List P.S48} (hl : l.length ≤ 100) (key : Int) {k : Nat} (hk : 400 ≤ k) : P.chain_Right.f k l key = some (rg l key) := by
  have hj : ∀ b : Bool, P.chain_Right.j0 k b l key = some (if b = true then 2 else rgN l key l.length 0) := by
    intro b
    obtain ⟨k, rfl⟩ : ∃ q, k = q + 1 := ⟨k - 1, by omega⟩
    unfold P.chain_Right.j0
    try dsimp only
    cases b with
    | true => rfl
    | false =>
      rw [if_neg (by decide), if_neg (by decide)]
      exact right_l0 l hl key l.length 0 k (by omega) (by omega) (by omega)
  unfold P.chain_Right.f rg
  rw [hj, hj]
  by_cases h1 : l.length > 32
  · rw [if_pos (by omega), if_pos h1]
  rw [if_neg (by omega), if_neg h1]
  by_cases h2 : key < 0
  · rw [if_pos h2, if_pos rfl, if_neg (by omega)]
  rw [if_neg h2]
  by_cases h3 : key > 9999
  · rw [decide_eq_true h3, if_pos rfl, if_neg (by omega)]
  · rw [decide_eq_false h3, if_neg (by decide), if_pos (by omega)]
theorem right_long {l : List P.S48} (hl : l.length > 32) (key : Int) (k : Nat) : P.chain_Right.f k l key = some 4 := by
  unfold P.chain_Right.f; rw [if_pos (by omega)]
/-- The index of a contact: none, or that of one. -/
theorem ix_range (l : List P.S48) (id : Int) : ix l id 0 = -1 ∨ ∃ j : Nat, ∃ h : j < l.length, ix l id 0 = (j : Int) ∧ l[j].f0 = id := by
  rcases ix_cases l id 0 with ⟨e, _⟩ | ⟨j, hj, e, q⟩
  · exact .inl e
  · exact .inr ⟨j, hj, by rw [e]; omega, q⟩
/-- A contact's field put, in the list. -/
def brk (x : P.S48) : P.S48 := ⟨x.f0, x.f1, false, true, x.f4⟩
def mak (x : P.S48) : P.S48 := ⟨x.f0, x.f1, true, x.f3, x.f4⟩
def clr (x : P.S48) : P.S48 := ⟨x.f0, x.f1, x.f2, false, x.f4⟩
def unt (u : Int) (x : P.S48) : P.S48 := ⟨x.f0, x.f1, x.f2, x.f3, u⟩
def breakR (l : List P.S48) (key id : Int) : List P.S48 × Int × Int := if ix l id 0 < 0 then ([], 0, 8) else (l.set (ix l id 0).toNat (brk (P.rd_T48 l (ix l id 0))), key, 0)
def makeR (l : List P.S48) (key id : Int) : List P.S48 × Int × Int := if ix l id 0 < 0 then ([], 0, 8) else (l.set (ix l id 0).toNat (mak (P.rd_T48 l (ix l id 0))), key, 0)
def clearR (l : List P.S48) (key id who : Int) : List P.S48 × Int × Int :=
  if ix l id 0 < 0 then ([], 0, 8) else if 1 ≤ who ∧ who ≤ 9999 then (if (P.rd_T48 l (ix l id 0)).f2 = true then (l.set (ix l id 0).toNat (clr (P.rd_T48 l (ix l id 0))), key, 0) else ([], 0, 10)) else ([], 0, 17)
theorem break_at {l : List P.S48} (hl : l.length ≤ 100) (key id : Int) : P.chain_Break.f l key id = some (breakR l key id) := by
  unfold P.chain_Break.f breakR
  rw [own_at hl, Option.bind_some]
  dsimp only
  rcases ix_range l id with e | ⟨j, hj, e, _⟩
  · rw [e, if_pos (by decide), if_pos (by decide)]
  · have h0 : ¬ ((j : Int) < 0) := by omega
    rw [e, if_neg h0, if_neg h0, if_pos (show (0 : Int) ≤ j by omega), if_pos (show (j : Int) < l.length by omega)]; rfl
theorem make_at {l : List P.S48} (hl : l.length ≤ 100) (key id : Int) : P.chain_Make.f l key id = some (makeR l key id) := by
  unfold P.chain_Make.f makeR
  rw [own_at hl, Option.bind_some]
  dsimp only
  rcases ix_range l id with e | ⟨j, hj, e, _⟩
  · rw [e, if_pos (by decide), if_pos (by decide)]
  · have h0 : ¬ ((j : Int) < 0) := by omega
    rw [e, if_neg h0, if_neg h0, if_pos (show (0 : Int) ≤ j by omega), if_pos (show (j : Int) < l.length by omega)]; rfl
theorem clear_at {l : List P.S48} (hl : l.length ≤ 100) (key id who : Int) : P.chain_Clear.f l key id who = some (clearR l key id who) := by
  unfold P.chain_Clear.f clearR
  rw [own_at hl, Option.bind_some]
  dsimp only
  rcases ix_range l id with e | ⟨j, hj, e, _⟩
  · rw [e, if_pos (by decide), if_pos (by decide)]
  · have h0 : ¬ ((j : Int) < 0) := by omega
    rw [e, if_neg h0, if_neg h0, person_at, Option.bind_some]
    by_cases hp : 1 ≤ who ∧ who ≤ 9999
    · rw [decide_eq_true hp, if_pos rfl, if_pos hp, if_pos (show (0 : Int) ≤ j by omega), if_pos (show (j : Int) < l.length by omega)]
      by_cases hc : (P.rd_T48 l (j : Int)).f2 = true
      · rw [if_pos hc, if_pos hc]; rfl
      · rw [if_neg hc, if_neg hc]
    · rw [decide_eq_false hp, if_neg (by decide), if_neg hp]
theorem breakR_length (l : List P.S48) (key id : Int) : (breakR l key id).1.length ≤ l.length := by unfold breakR; split <;> simp
theorem makeR_length (l : List P.S48) (key id : Int) : (makeR l key id).1.length ≤ l.length := by unfold makeR; split <;> simp
theorem clearR_length (l : List P.S48) (key id who : Int) : (clearR l key id who).1.length ≤ l.length := by
  unfold clearR; repeat' split
  all_goals simp
theorem rg_zero_length {l : List P.S48} {key : Int} (h : rg l key = 0) : l.length ≤ 32 := by
  unfold rg at h
  by_cases hl : l.length > 32
  · rw [if_pos hl] at h; omega
  · omega
/-- A contact that is right by itself, with this key. -/
def okx (key : Int) (x : P.S48) : Prop := 1 ≤ x.f0 ∧ x.f0 ≤ 9999 ∧ 0 ≤ x.f4 ∧ x.f4 ≤ 20000000 ∧ (x.f2 = true ∨ x.f3 = true) ∧ (x.f1 = true → x.f4 = 0) ∧ (x.f4 ≠ 0 → key ≠ 0)
/-- A right chain. -/
def V (l : List P.S48) (key : Int) : Prop :=
  l.length ≤ 32 ∧ 0 ≤ key ∧ key ≤ 9999 ∧ (∀ (i : Nat) (h : i < l.length), okx key l[i]) ∧ (∀ (i j : Nat) (hi : i < l.length) (hj : j < l.length), i < j → l[i].f0 ≠ l[j].f0 ∧ (l[i].f4 = 0 ∨ l[j].f4 = 0))
theorem tl_zero (b : Bool) (key : Int) (crit closed latch : Bool) (u : Int) : tl b key crit closed latch u = 0 ↔ (closed = true ∨ latch = true) ∧ (crit = true → u = 0) ∧ (u ≠ 0 → key ≠ 0 ∧ b = false) := by
  unfold tl
  by_cases h1 : u = 0
  · subst h1
    cases closed <;> cases latch <;> cases crit <;> simp
  · by_cases h2 : key = 0
    · subst h2
      cases closed <;> cases latch <;> cases crit <;> simp [h1]
    · cases closed <;> cases latch <;> cases crit <;> cases b <;> simp [h1, h2]
theorem hasID_take {l : List P.S48} {i : Nat} (hi : i ≤ l.length) (id : Int) : hasID (l.take i) id = false ↔ ∀ (j : Nat) (hj : j < i), (l[j]'(by omega)).f0 ≠ id := by
  unfold hasID
  rw [List.any_eq_false]
  constructor
  · intro h j hj
    have hm : (l[j]'(by omega)) ∈ l.take i := by
      have h2 : j < (l.take i).length := by rw [List.length_take]; omega
      have := List.getElem_mem h2
      simpa using this
    have := h _ hm
    simpa using this
  · intro h x hx
    obtain ⟨j, hj, rfl⟩ := List.getElem_of_mem hx
    have h2 : j < i := by rw [List.length_take] at hj; omega
    have := h j h2
    simpa using this
theorem hasBy_take {l : List P.S48} {i : Nat} (hi : i ≤ l.length) : hasBy (l.take i) = false ↔ ∀ (j : Nat) (hj : j < i), (l[j]'(by omega)).f4 = 0 := by
  unfold hasBy
  rw [List.any_eq_false]
  constructor
  · intro h j hj
    have hm : (l[j]'(by omega)) ∈ l.take i := by
      have h2 : j < (l.take i).length := by rw [List.length_take]; omega
      have := List.getElem_mem h2
      simpa using this
    have := h _ hm
    simpa using this
  · intro h x hx
    obtain ⟨j, hj, rfl⟩ := List.getElem_of_mem hx
    have h2 : j < i := by rw [List.length_take] at hj; omega
    have := h j h2
    simpa using this
theorem cst_zero {l : List P.S48} (key : Int) {i : Nat} (hi : i < l.length) : cst l key i = 0 ↔ okx key l[i] ∧ ∀ (j : Nat) (hj : j < i), (l[j]'(by omega)).f0 ≠ l[i].f0 ∧ ((l[j]'(by omega)).f4 = 0 ∨ l[i].f4 = 0) := by
  unfold cst okx
  rw [rdl hi]
  dsimp only
  generalize hx : l[i] = x
  by_cases h1 : 1 ≤ x.f0 ∧ x.f0 ≤ 9999 ∧ 0 ≤ x.f4 ∧ x.f4 ≤ 20000000
  · rw [if_pos h1]
    by_cases h2 : hasID (l.take i) x.f0 = true
    · rw [if_pos h2]
      constructor
      · intro h; omega
      · rintro ⟨_, h⟩
        have := (hasID_take (l := l) (i := i) (by omega) x.f0).2 (fun j hj => (h j hj).1)
        rw [this] at h2; cases h2
    · rw [if_neg h2, tl_zero]
      have h3 := (hasID_take (l := l) (i := i) (by omega) x.f0).1 (by simpa using h2)
      constructor
      · rintro ⟨a, b, c⟩
        refine ⟨⟨h1.1, h1.2.1, h1.2.2.1, h1.2.2.2, a, b, fun q => (c q).1⟩, fun j hj => ⟨h3 j hj, ?_⟩⟩
        by_cases q : x.f4 = 0
        · exact .inr q
        · exact .inl ((hasBy_take (l := l) (i := i) (by omega)).1 (c q).2 j hj)
      · rintro ⟨⟨_, _, _, _, a, b, c⟩, d⟩
        refine ⟨a, b, fun q => ⟨c q, (hasBy_take (l := l) (i := i) (by omega)).2 (fun j hj => ?_)⟩⟩
        rcases (d j hj).2 with e | e
        · exact e
        · exact absurd e q
  · rw [if_neg h1]
    constructor
    · intro h; omega
    · rintro ⟨h, _⟩; exact absurd ⟨h.1, h.2.1, h.2.2.1, h.2.2.2.1⟩ h1
theorem rgN_zero (l : List P.S48) (key : Int) : ∀ (n i : Nat), rgN l key n i = 0 ↔ ∀ j : Nat, i ≤ j → j < i + n → cst l key j = 0 := by
  intro n
  induction n with
  | zero => intro i; exact ⟨fun _ j h1 h2 => absurd h2 (by omega), fun _ => rfl⟩
  | succ n ih =>
    intro i
    unfold rgN
    by_cases h : cst l key i = 0
    · rw [if_pos h, ih]
      constructor
      · intro q j h1 h2
        rcases Nat.eq_or_lt_of_le h1 with e | e
        · rw [← e]; exact h
        · exact q j (by omega) (by omega)
      · intro q j h1 h2; exact q j (by omega) (by omega)
    · rw [if_neg h]
      exact ⟨fun q => absurd q h, fun q => q i (by omega) (by omega)⟩
theorem rg_V (l : List P.S48) (key : Int) : rg l key = 0 ↔ V l key := by
  unfold rg V
  by_cases h1 : l.length > 32
  · rw [if_pos h1]
    exact ⟨fun h => absurd h (by decide), fun h => absurd h.1 (by omega)⟩
  rw [if_neg h1]
  by_cases h2 : 0 ≤ key ∧ key ≤ 9999
  · rw [if_pos h2, rgN_zero]
    constructor
    · intro h
      have q := fun (i : Nat) (hi : i < l.length) => (cst_zero key hi).1 (h i (by omega) (by omega))
      exact ⟨by omega, h2.1, h2.2, fun i hi => (q i hi).1, fun i j hi hj hij => (q j hj).2 i hij⟩
    · rintro ⟨_, _, _, a, b⟩ j _ hj
      have hj' : j < l.length := by omega
      exact (cst_zero key hj').2 ⟨a j hj', fun m hm => b m j (by omega) hj' hm⟩
  · rw [if_neg h2]
    exact ⟨fun h => absurd h (by decide), fun h => absurd ⟨h.2.1, h.2.2.1⟩ h2⟩
/-- Expire, on both sides. -/
def exx (t : Int) (x : P.S48) : P.S48 := if x.f4 ≤ t then unt 0 x else x
theorem set_take {l : List P.S48} {j : Nat} (h : j < l.length) (y : P.S48) : (l.set j y).take (j + 1) = l.take j ++ [y] := by
  rw [List.take_succ_eq_append_getElem (by rw [List.length_set]; exact h), List.take_set_of_le (Nat.le_refl j), List.getElem_set_self]
theorem set_drop (l : List P.S48) (j : Nat) (y : P.S48) : (l.set j y).drop (j + 1) = l.drop (j + 1) := List.drop_set_of_lt (by omega)
theorem expire_l0 (t : Int) (key : Int) : ∀ (n j k : Nat) (l : List P.S48), l.length ≤ 100 → l.length - j ≤ n → j ≤ l.length → n < k →
    P.chain_Expire.l0 k t (l.length : Int) (j : Int) l key = some (l.take j ++ (l.drop j).map (exx t), key) := by
  intro n
  induction n with
  | zero =>
    intro j k l hl h1 h2 h3
    obtain ⟨k, rfl⟩ : ∃ q, k = q + 1 := ⟨k - 1, by omega⟩
    unfold P.chain_Expire.l0
    rw [if_neg (by omega), List.drop_eq_nil_of_le (by omega), List.take_of_length_le (by omega)]; simp
  | succ n ih =>
    intro j k l hl h1 h2 h3
    obtain ⟨k, rfl⟩ : ∃ q, k = q + 1 := ⟨k - 1, by omega⟩
    unfold P.chain_Expire.l0
    by_cases h : j < l.length
    · have hw : wrap64 ((j : Int) + 1) = ((j + 1 : Nat) : Int) := by rw [wrap_at (by omega) (by omega)]; omega
      rw [if_pos (show (j : Int) < l.length by omega), if_pos (show (0 : Int) ≤ j by omega), if_pos (show (j : Int) < l.length by omega), rdl h, hw, Int.toNat_natCast, List.drop_eq_getElem_cons h, List.map_cons]
      by_cases e : l[j].f4 ≤ t
      · rw [if_pos e]
        have := ih (j + 1) k (l.set j (unt 0 l[j])) (by rw [List.length_set]; exact hl) (by rw [List.length_set]; omega) (by rw [List.length_set]; omega) (by omega)
        rw [List.length_set, set_take h, set_drop] at this
        rw [show exx t l[j] = unt 0 l[j] from if_pos e]
        rw [List.append_assoc, List.singleton_append] at this
        exact this
      · rw [if_neg e, ih (j + 1) k l hl (by omega) (by omega) (by omega), show exx t l[j] = l[j] from if_neg e, List.take_succ_eq_append_getElem h, List.append_assoc, List.singleton_append]
    · rw [if_neg (by omega), List.drop_eq_nil_of_le (by omega), List.take_of_length_le (by omega)]; simp
theorem expire_at {l : List P.S48} (hl : l.length ≤ 100) (key t : Int) {k : Nat} (hk : 200 ≤ k) : P.chain_Expire.f k l key t = some (l.map (exx t), key) := by
  unfold P.chain_Expire.f
  rw [own_at hl, Option.bind_some]
  have := expire_l0 t key l.length 0 k l hl (by omega) (by omega) (by omega)
  simpa using this
theorem take_l0 (key : Int) : ∀ (n j k : Nat) (l : List P.S48), l.length ≤ 100 → l.length - j ≤ n → j ≤ l.length → n < k →
    P.chain_Take.l0 k (l.length : Int) (j : Int) l key = some (l.take j ++ (l.drop j).map (unt 0), key, 0) := by
  intro n
  induction n with
  | zero =>
    intro j k l hl h1 h2 h3
    obtain ⟨k, rfl⟩ : ∃ q, k = q + 1 := ⟨k - 1, by omega⟩
    unfold P.chain_Take.l0
    rw [if_neg (by omega), List.drop_eq_nil_of_le (by omega), List.take_of_length_le (by omega)]; simp
  | succ n ih =>
    intro j k l hl h1 h2 h3
    obtain ⟨k, rfl⟩ : ∃ q, k = q + 1 := ⟨k - 1, by omega⟩
    unfold P.chain_Take.l0
    by_cases h : j < l.length
    · have hw : wrap64 ((j : Int) + 1) = ((j + 1 : Nat) : Int) := by rw [wrap_at (by omega) (by omega)]; omega
      rw [if_pos (show (j : Int) < l.length by omega), if_pos (show (0 : Int) ≤ j by omega), if_pos (show (j : Int) < l.length by omega), rdl h, hw, Int.toNat_natCast, List.drop_eq_getElem_cons h, List.map_cons]
      have := ih (j + 1) k (l.set j (unt 0 l[j])) (by rw [List.length_set]; exact hl) (by rw [List.length_set]; omega) (by rw [List.length_set]; omega) (by omega)
      rw [List.length_set, set_take h, set_drop, List.append_assoc, List.singleton_append] at this
      exact this
    · rw [if_neg (by omega), List.drop_eq_nil_of_le (by omega), List.take_of_length_le (by omega)]; simp
def takeR (l : List P.S48) (key who : Int) : List P.S48 × Int × Int :=
  if 1 ≤ who ∧ who ≤ 9999 then (if key = 0 then (l, who, 0) else if key = who then (l.map (unt 0), 0, 0) else ([], 0, 15)) else ([], 0, 17)
theorem take_at {l : List P.S48} (hl : l.length ≤ 100) (key who : Int) {k : Nat} (hk : 200 ≤ k) : P.chain_Take.f k l key who = some (takeR l key who) := by
  unfold P.chain_Take.f takeR
  rw [own_at hl, Option.bind_some, person_at, Option.bind_some]
  dsimp only
  have := take_l0 0 l.length 0 k l hl (by omega) (by omega) (by omega)
  rw [show ((0 : Nat) : Int) = 0 from rfl] at this
  rw [this]
  by_cases hp : 1 ≤ who ∧ who ≤ 9999
  · rw [decide_eq_true hp, if_pos rfl, if_pos hp]
    by_cases h1 : key = 0
    · rw [if_pos h1, if_pos h1]
    rw [if_neg h1, if_neg h1]
    by_cases h2 : key = who
    · rw [if_pos h2, if_pos h2]; simp
    · rw [if_neg h2, if_neg h2]
  · rw [decide_eq_false hp, if_neg (by decide), if_neg hp]
/-- The faults. -/
def flt (t : Int) (x : P.S48) : Bool := (x.f3 || !x.f2) && decide (x.f4 ≤ t)
def faultR (l : List P.S48) (t : Int) : List Int := (l.filter (flt t)).map (·.f0)
theorem faultR_cons (x : P.S48) (l : List P.S48) (t : Int) : faultR (x :: l) t = if flt t x = true then x.f0 :: faultR l t else faultR l t := by
  unfold faultR
  by_cases h : flt t x = true
  · rw [if_pos h, List.filter_cons_of_pos h]; rfl
  · rw [if_neg h, List.filter_cons_of_neg h]
theorem faults_l0 (t : Int) (l : List P.S48) (hl : l.length ≤ 100) : ∀ (n j k : Nat) (acc : List Int), l.length - j ≤ n → j ≤ l.length → n < k → acc.length ≤ j →
    P.chain_Faults.l0 k t acc l (l.length : Int) (j : Int) = some (acc ++ faultR (l.drop j) t) := by
  intro n
  induction n with
  | zero =>
    intro j k acc h1 h2 h3 h4
    obtain ⟨k, rfl⟩ : ∃ q, k = q + 1 := ⟨k - 1, by omega⟩
    unfold P.chain_Faults.l0
    rw [if_neg (by omega), List.drop_eq_nil_of_le (by omega)]; simp [faultR]
  | succ n ih =>
    intro j k acc h1 h2 h3 h4
    obtain ⟨k, rfl⟩ : ∃ q, k = q + 1 := ⟨k - 1, by omega⟩
    unfold P.chain_Faults.l0
    by_cases h : j < l.length
    · have hw : wrap64 ((j : Int) + 1) = ((j + 1 : Nat) : Int) := by rw [wrap_at (by omega) (by omega)]; omega
      have ha : acc.length < 17592186044416 := by omega
      have q1 := ih (j + 1) k acc (by omega) (by omega) (by omega) (by omega)
      have q2 := ih (j + 1) k (acc ++ [l[j].f0]) (by omega) (by omega) (by omega) (by simp; omega)
      rw [if_pos (show (j : Int) < l.length by omega), if_pos (show (0 : Int) ≤ j by omega), if_pos (show (j : Int) < l.length by omega), rdl h, hw, List.drop_eq_getElem_cons h, faultR_cons, if_pos ha, q1, q2]
      unfold flt
      by_cases e : l[j].f4 ≤ t
      · rw [decide_eq_true e, if_pos (show t ≥ l[j].f4 from e)]
        cases l[j].f3 <;> cases l[j].f2 <;> simp
      · rw [decide_eq_false e, if_neg (show ¬ t ≥ l[j].f4 from e)]
        cases l[j].f3 <;> cases l[j].f2 <;> simp
    · rw [if_neg (by omega), List.drop_eq_nil_of_le (by omega)]; simp [faultR]
theorem faults_at {l : List P.S48} (hl : l.length ≤ 100) (key t : Int) {k : Nat} (hk : 200 ≤ k) : P.chain_Faults.f k l key t = some (faultR l t) := by
  unfold P.chain_Faults.f
  have := faults_l0 t l hl l.length 0 k [] (by omega) (by omega) (by omega) (by simp)
  simpa using this
theorem faultR_length (l : List P.S48) (t : Int) : (faultR l t).length ≤ l.length := by
  unfold faultR; rw [List.length_map]; exact List.length_filter_le _ _
/-- Bypass. -/
def oth (l : List P.S48) (i : Int) : Nat → Bool
  | 0 => false
  | n + 1 => oth l i n || ((n : Int) != i && (P.rd_T48 l n).f4 != 0)
def bypR (l : List P.S48) (key id who u : Int) : List P.S48 × Int × Int :=
  if ix l id 0 < 0 then ([], 0, 8) else if who = 0 ∨ who ≠ key then ([], 0, 17) else if (P.rd_T48 l (ix l id 0)).f1 = true then ([], 0, 13)
  else if oth l (ix l id 0) l.length = true then ([], 0, 15) else if 1 ≤ u ∧ u ≤ 20000000 then (l.set (ix l id 0).toNat (unt u (P.rd_T48 l (ix l id 0))), key, 0) else ([], 0, 2)
theorem bypass_j1 {l : List P.S48} (hl : l.length ≤ 100) (key u : Int) {j : Nat} (hj : j < l.length) (b c : Bool) {k : Nat} (hk : 1 ≤ k) : P.chain_Bypass.j1 k u (j : Int) b c l key =
    some (if c = true then ([], 0, 17) else if (P.rd_T48 l (j : Int)).f1 = true then ([], 0, 13) else if b = true then ([], 0, 15) else if 1 ≤ u ∧ u ≤ 20000000 then (l.set j (unt u (P.rd_T48 l (j : Int))), key, 0) else ([], 0, 2)) := by
  obtain ⟨k, rfl⟩ : ∃ q, k = q + 1 := ⟨k - 1, by omega⟩
  unfold P.chain_Bypass.j1
  try dsimp only
  rw [if_pos (show (0 : Int) ≤ j by omega), if_pos (show (j : Int) < l.length by omega), Int.toNat_natCast]
  cases c with
  | true => rfl
  | false =>
    simp only [Bool.false_eq_true, if_false]
    by_cases h1 : (P.rd_T48 l (j : Int)).f1 = true
    · rw [if_pos h1, if_pos h1]
    rw [if_neg h1, if_neg h1]
    cases b with
    | true => rfl
    | false =>
      simp only [Bool.false_eq_true, if_false]
      by_cases h2 : u < 1
      · rw [if_pos h2, if_neg (by omega)]
      rw [if_neg h2]
      by_cases h3 : u > 20000000
      · rw [if_pos h3, if_neg (by omega)]
      · rw [if_neg h3, if_pos (show 1 ≤ u ∧ u ≤ 20000000 by omega)]; rfl
theorem bypass_l0 (l l' : List P.S48) (hl : l.length ≤ 100) (key key' who u i : Int) : ∀ (n j k : Nat), l.length - j = n → j ≤ l.length → n < k →
    P.chain_Bypass.l0 k who u i (oth l i j) (l.length : Int) (j : Int) l' key' l key = P.chain_Bypass.l0 (k - n) who u i (oth l i l.length) (l.length : Int) (l.length : Int) l' key' l key := by
  intro n
  induction n with
  | zero => intro j k h1 h2 h3; rw [show j = l.length by omega]; rfl
  | succ n ih =>
    intro j k h1 h2 h3
    obtain ⟨k, rfl⟩ : ∃ q, k = q + 1 := ⟨k - 1, by omega⟩
    have hw : wrap64 ((j : Int) + 1) = ((j + 1 : Nat) : Int) := by rw [wrap_at (by omega) (by omega)]; omega
    rw [show k + 1 - (n + 1) = k - n by omega, ← ih (j + 1) k (by omega) (by omega) (by omega)]
    conv => lhs; unfold P.chain_Bypass.l0
    try dsimp only
    rw [if_pos (show (j : Int) < l.length by omega), if_pos (show (0 : Int) ≤ j by omega), hw]
    conv => rhs; unfold oth
    cases ho : oth l i j with
    | true => rw [if_pos rfl, Bool.true_or]
    | false =>
      rw [if_neg (by decide), Bool.false_or]
      by_cases e : (j : Int) = i
      · rw [if_pos e, show ((j : Int) != i) = false from bne_eq_false_iff_eq.2 e, Bool.false_and]
      · rw [if_neg e, show ((j : Int) != i) = true from bne_iff_ne.2 e, Bool.true_and, if_pos (show (j : Int) < l.length by omega)]
theorem bypass_at {l : List P.S48} (hl : l.length ≤ 100) (key id who u : Int) {k : Nat} (hk : 200 ≤ k) : P.chain_Bypass.f k l key id who u = some (bypR l key id who u) := by
  unfold P.chain_Bypass.f bypR
  rw [own_at hl, Option.bind_some]
  dsimp only
  have h0 := bypass_l0 l l hl key key who u (ix l id 0) l.length 0 k (by omega) (by omega) (by omega)
  rw [show oth l (ix l id 0) 0 = false from rfl, show ((0 : Nat) : Int) = 0 from rfl] at h0
  rw [h0]
  obtain ⟨q, hq⟩ : ∃ q, k - l.length = q + 2 := ⟨k - l.length - 2, by omega⟩
  rw [hq]
  unfold P.chain_Bypass.l0
  try dsimp only
  rw [if_neg (show ¬ ((l.length : Int) < l.length) by omega)]
  rcases ix_range l id with e | ⟨j, hj, e, _⟩
  · rw [e, if_pos (by decide), if_pos (by decide)]
  · have hn : ¬ ((j : Int) < 0) := by omega
    rw [e, if_neg hn, if_neg hn, bypass_j1 hl key u hj _ _ (by omega), bypass_j1 hl key u hj _ _ (by omega), Int.toNat_natCast]
    by_cases h1 : who = 0
    · rw [if_pos h1, if_pos rfl, if_pos (Or.inl h1)]
    rw [if_neg h1]
    by_cases h2 : who = key
    · rw [show (who != key) = false from bne_eq_false_iff_eq.2 h2, if_neg (by decide), if_neg (show ¬ (who = 0 ∨ who ≠ key) from fun h => Or.elim h h1 (fun h => h h2))]
    · rw [show (who != key) = true from bne_iff_ne.2 h2, if_pos rfl, if_pos (Or.inr h2)]
end Go.Proofs.Yteepdedbldnccaa.Pure
