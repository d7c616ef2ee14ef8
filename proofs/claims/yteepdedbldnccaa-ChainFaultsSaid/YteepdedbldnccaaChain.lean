/- The safety chain in plain Lean: what the printed functions of the program and of the reference answer. -/
import Derived.Test.YteepdedbldnccaaOpen
import Derived.Test.YteepdedbldnccaaPx10
import Derived.Test.YteepdedbldnccaaPx11
import Derived.Test.YteepdedbldnccaaPx18
import Derived.Test.YteepdedbldnccaaPx19
import Derived.Test.YteepdedbldnccaaPx2
import Derived.Test.YteepdedbldnccaaPx20
import Derived.Test.YteepdedbldnccaaPx21
import Derived.Test.YteepdedbldnccaaPx22
import Derived.Test.YteepdedbldnccaaPx24
import Derived.Test.YteepdedbldnccaaPx25
import Derived.Test.YteepdedbldnccaaPx26
import Derived.Test.YteepdedbldnccaaPx27
import Derived.Test.YteepdedbldnccaaPx3
import Derived.Test.YteepdedbldnccaaPx6
import Derived.Test.YteepdedbldnccaaPx7
import Derived.Test.YteepdedbldnccaaPx8
import Derived.Test.YteepdedbldnccaaPx9
namespace Go.Proofs.Yteepdedbldnccaa.Pure
set_option linter.unusedVariables false
set_option linter.unusedSimpArgs false
open Go.RowKit Go.Proofs.YteepdedbldnccaaW.PrintWords Go.Proofs.YteepdedbldnccaaW.PrintLast Go.Proofs.YteepdedbldnccaaW.PrintMore Go.Proofs.Yteepdedbldnccaa
def ok48 (x : P.S48) : Prop := I64 x.f0 ∧ True ∧ True ∧ True ∧ I64 x.f4
def ok45 (x : P.S45) : Prop := I64 x.f0 ∧ I64 x.f1 ∧ I64 x.f2 ∧ I64 x.f3
theorem wrap_at {x : Int} (h : -9223372036854775808 ≤ x) (h' : x ≤ 9223372036854775807) : wrap64 x = x := by unfold wrap64; omega
theorem alive_at {k : Nat} (hk : 60 ≤ k) : P.skiarealaw16_alive.f k = some true := by
  refine at_rounds (g := P.skiarealaw16_alive.f) P.skiarealaw16_alive.mono hk ?_
  decide +kernel
theorem in_at (a b c : Int) : P.skiarearef16_in.f a b c = some (decide (b ≤ a ∧ a ≤ c)) := by
  unfold P.skiarearef16_in.f
  by_cases h : a ≥ b
  · rw [if_pos h]; congr 1; simp only [decide_eq_decide]; omega
  · rw [if_neg h]; congr 1; symm; rw [decide_eq_false_iff_not]; omega
theorem person_at (a : Int) : P.chain_person.f a = some (decide (1 ≤ a ∧ a ≤ 9999)) := by
  unfold P.chain_person.f
  by_cases h : a ≥ 1
  · rw [if_pos h]; congr 1; simp only [decide_eq_decide]; omega
  · rw [if_neg h]; congr 1; symm; rw [decide_eq_false_iff_not]; omega
theorem rdl {l : List P.S48} {j : Nat} (h : j < l.length) : P.rd_T48 l (j : Int) = l[j] := by
  unfold P.rd_T48; rw [Int.toNat_natCast, List.getD_eq_getElem?_getD, List.getElem?_eq_getElem h]; rfl
theorem rdl' {l : List P.S48} {j : Int} (h0 : 0 ≤ j) (h : j < (l.length : Int)) : P.rd_T48 l j = l[j.toNat]'(by omega) := by
  obtain ⟨n, rfl⟩ := Int.eq_ofNat_of_zero_le h0
  exact rdl (by omega)
abbrev ix := P.chain_own.ix
theorem ix_cons (x : P.S48) (l : List P.S48) (id i : Int) : ix (x :: l) id i = if x.f0 = id then i else ix l id (i + 1) := rfl
theorem ix_nil (id i : Int) : ix [] id i = -1 := rfl
theorem ix_cases (l : List P.S48) (id : Int) : ∀ i : Int, (ix l id i = -1 ∧ ∀ x ∈ l, x.f0 ≠ id) ∨ (∃ j : Nat, ∃ h : j < l.length, ix l id i = i + j ∧ l[j].f0 = id) := by
  induction l with
  | nil => intro i; exact .inl ⟨rfl, by simp⟩
  | cons x l ih =>
    intro i
    rw [ix_cons]
    by_cases h : x.f0 = id
    · rw [if_pos h]; exact .inr ⟨0, by simp, by simp, h⟩
    · rw [if_neg h]
      rcases ih (i + 1) with ⟨e, q⟩ | ⟨j, hj, e, q⟩
      · exact .inl ⟨e, fun y hy => (List.mem_cons.1 hy).elim (fun h2 => h2 ▸ h) (q y)⟩
      · exact .inr ⟨j + 1, by simp; omega, by rw [e]; push_cast; omega, by simpa using q⟩
theorem own_at {l : List P.S48} (hl : l.length ≤ 100) (key id : Int) : P.chain_own.f l key id = some (l, key, ix l id 0) := by
  unfold P.chain_own.f; rw [if_pos (by omega)]
theorem index_l0 (l : List P.S48) (id : Int) (hl : l.length ≤ 100) : ∀ (n j k : Nat), l.length - j ≤ n → j ≤ l.length → n < k → P.skiarearef16_index.l0 k l id (j : Int) = some (ix (l.drop j) id j) := by
  intro n
  induction n with
  | zero =>
    intro j k h1 h2 h3
    obtain ⟨k, rfl⟩ : ∃ q, k = q + 1 := ⟨k - 1, by omega⟩
    unfold P.skiarearef16_index.l0
    rw [if_neg (by omega), List.drop_eq_nil_of_le (by omega), ix_nil]
  | succ n ih =>
    intro j k h1 h2 h3
    obtain ⟨k, rfl⟩ : ∃ q, k = q + 1 := ⟨k - 1, by omega⟩
    unfold P.skiarearef16_index.l0
    by_cases h : j < l.length
    · rw [if_pos (by omega), if_pos (by omega), rdl h, List.drop_eq_getElem_cons h, ix_cons]
      by_cases e : l[j].f0 = id
      · rw [if_pos e, if_pos e]
      · rw [if_neg e, if_neg e, wrap_at (by omega) (by omega), show ((j : Int) + 1) = ((j + 1 : Nat) : Int) from by omega, ih (j + 1) k (by omega) (by omega) (by omega)]
    · rw [if_neg (by omega), List.drop_eq_nil_of_le (by omega), ix_nil]
theorem index_at {l : List P.S48} (hl : l.length ≤ 100) (id : Int) {k : Nat} (hk : 200 ≤ k) : P.skiarearef16_index.f k l id = some (ix l id 0) := by
  unfold P.skiarearef16_index.f
  have := index_l0 l id hl l.length 0 k (by omega) (by omega) (by omega)
  simpa using this
/-- The first contact that is bypassed. -/
def bx : List P.S48 → Int → Int
  | [], _ => -1
  | x :: l, i => if x.f4 = 0 then bx l (i + 1) else i
theorem bx_cases (l : List P.S48) : ∀ i : Int, (bx l i = -1 ∧ ∀ x ∈ l, x.f4 = 0) ∨ (∃ j : Nat, ∃ h : j < l.length, bx l i = i + j ∧ l[j].f4 ≠ 0) := by
  induction l with
  | nil => intro i; exact .inl ⟨rfl, by simp⟩
  | cons x l ih =>
    intro i
    unfold bx
    by_cases h : x.f4 = 0
    · rw [if_pos h]
      rcases ih (i + 1) with ⟨e, q⟩ | ⟨j, hj, e, q⟩
      · exact .inl ⟨e, fun y hy => (List.mem_cons.1 hy).elim (fun h2 => h2 ▸ h) (q y)⟩
      · exact .inr ⟨j + 1, by simp; omega, by rw [e]; push_cast; omega, by simpa using q⟩
    · rw [if_neg h]; exact .inr ⟨0, by simp, by simp, h⟩
theorem byp_l0 (l : List P.S48) (hl : l.length ≤ 100) : ∀ (n j k : Nat), l.length - j ≤ n → j ≤ l.length → n < k → P.skiarearef16_bypassed.l0 k l (j : Int) = some (bx (l.drop j) j) := by
  intro n
  induction n with
  | zero =>
    intro j k h1 h2 h3
    obtain ⟨k, rfl⟩ : ∃ q, k = q + 1 := ⟨k - 1, by omega⟩
    unfold P.skiarearef16_bypassed.l0
    rw [if_neg (by omega), List.drop_eq_nil_of_le (by omega)]; rfl
  | succ n ih =>
    intro j k h1 h2 h3
    obtain ⟨k, rfl⟩ : ∃ q, k = q + 1 := ⟨k - 1, by omega⟩
    unfold P.skiarearef16_bypassed.l0
    by_cases h : j < l.length
    · rw [if_pos (by omega), if_pos (by omega), rdl h, List.drop_eq_getElem_cons h, bx]
      by_cases e : l[j].f4 = 0
      · rw [if_pos e, if_pos e, wrap_at (by omega) (by omega), show ((j : Int) + 1) = ((j + 1 : Nat) : Int) from by omega, ih (j + 1) k (by omega) (by omega) (by omega)]
      · rw [if_neg e, if_neg e]
    · rw [if_neg (by omega), List.drop_eq_nil_of_le (by omega)]; rfl
theorem byp_at {l : List P.S48} (hl : l.length ≤ 100) {k : Nat} (hk : 200 ≤ k) : P.skiarearef16_bypassed.f k l = some (bx l 0) := by
  unfold P.skiarearef16_bypassed.f
  have := byp_l0 l hl l.length 0 k (by omega) (by omega) (by omega)
  simpa using this
/-- The last three tests of a contact. -/
def tl (b : Bool) (key : Int) (crit closed latch : Bool) (until_ : Int) : Int :=
  if (!closed && !latch) = true then 10 else if (crit && until_ != 0) = true then 13 else if until_ = 0 then 0 else if key = 0 then 15 else if b = true then 15 else 0
def hasID (l : List P.S48) (id : Int) : Bool := l.any (fun y => y.f0 == id)
def hasBy (l : List P.S48) : Bool := l.any (fun y => y.f4 != 0)
theorem contact_j3 {k : Nat} (hk : 1 ≤ k) (b : Bool) (l : List P.S48) (key id : Int) (crit closed latch : Bool) (u : Int) (z : Bool) : P.chain_contact.j3 k b z l key id crit closed latch u = some (if z = true then 13 else if u = 0 then 0 else if key = 0 then 15 else if b = true then 15 else 0) := by
  obtain ⟨k, rfl⟩ : ∃ q, k = q + 1 := ⟨k - 1, by omega⟩
  unfold P.chain_contact.j3
  try dsimp only
  cases z with
  | true => rfl
  | false =>
    simp only [Bool.false_eq_true, if_false]
    by_cases h1 : u = 0
    · rw [if_pos h1, if_pos h1]
    rw [if_neg h1, if_neg h1]
    by_cases h2 : key = 0
    · rw [if_pos h2, if_pos h2]
    rw [if_neg h2, if_neg h2]
    cases b <;> rfl
theorem contact_j2 {k : Nat} (hk : 2 ≤ k) (b : Bool) (l : List P.S48) (key id : Int) (crit closed latch : Bool) (u : Int) (z : Bool) (hz : z = (!closed && !latch)) : P.chain_contact.j2 k b z l key id crit closed latch u = some (tl b key crit closed latch u) := by
  obtain ⟨k, rfl⟩ : ∃ q, k = q + 1 := ⟨k - 1, by omega⟩
  unfold P.chain_contact.j2 tl
  try dsimp only
  subst hz
  rw [contact_j3 (by omega), contact_j3 (by omega)]
  cases (!closed && !latch) <;> cases crit <;> simp only [Bool.true_and, Bool.false_and, if_true, Bool.false_eq_true, if_false] <;> (repeat' split) <;> rfl
theorem contact_l0 (l : List P.S48) (hl : l.length ≤ 100) (key id : Int) (crit closed latch : Bool) (u : Int) (i : Nat) (hi : i ≤ l.length) : ∀ (n j k : Nat) (b : Bool), i - j ≤ n → j ≤ i → n + 3 < k →
    P.chain_contact.l0 k b (i : Int) (j : Int) l key id crit closed latch u = some (if hasID ((l.take i).drop j) id = true then 7 else tl (b || hasBy ((l.take i).drop j)) key crit closed latch u) := by
  intro n
  induction n with
  | zero =>
    intro j k b h1 h2 h3
    obtain ⟨k, rfl⟩ : ∃ q, k = q + 1 := ⟨k - 1, by omega⟩
    unfold P.chain_contact.l0
    try dsimp only
    rw [if_neg (by omega), List.drop_eq_nil_of_le (by rw [List.length_take]; omega)]
    rw [show hasID [] id = false from rfl, show hasBy [] = false from rfl, Bool.or_false]
    cases hc : closed with
    | true => rw [if_pos rfl, contact_j2 (by omega) _ _ _ _ _ _ _ _ _ (by simp)]; rfl
    | false => rw [if_neg (by simp), contact_j2 (by omega) _ _ _ _ _ _ _ _ _ (by simp)]; rfl
  | succ n ih =>
    intro j k b h1 h2 h3
    by_cases h : j < i
    · obtain ⟨k, rfl⟩ : ∃ q, k = q + 1 := ⟨k - 1, by omega⟩
      unfold P.chain_contact.l0
      try dsimp only
      have hj : j < (l.take i).length := by rw [List.length_take]; omega
      rw [if_pos (by omega), if_pos (by omega), if_pos (by omega), rdl (by omega), List.drop_eq_getElem_cons hj]
      have hg : (l.take i)[j] = l[j]'(by omega) := by simp
      rw [hg]
      generalize l[j]'(by omega) = y
      rw [show hasID (y :: (l.take i).drop (j + 1)) id = ((y.f0 == id) || hasID ((l.take i).drop (j + 1)) id) from rfl, show hasBy (y :: (l.take i).drop (j + 1)) = ((y.f4 != 0) || hasBy ((l.take i).drop (j + 1))) from rfl]
      by_cases e : y.f0 = id
      · rw [if_pos e, show (y.f0 == id) = true from beq_iff_eq.2 e]; simp
      · rw [if_neg e, show (y.f0 == id) = false from beq_eq_false_iff_ne.2 e, Bool.false_or, wrap_at (by omega) (by omega), show ((j : Int) + 1) = ((j + 1 : Nat) : Int) from by omega]
        cases b with
        | true => rw [if_pos rfl, ih (j + 1) k true (by omega) (by omega) (by omega)]; simp
        | false => rw [if_neg (by decide), ih (j + 1) k _ (by omega) (by omega) (by omega)]; simp
    · have := ih j k b (by omega) h2 (by omega)
      exact this
/-- What the tests of a contact answer. -/
def cst (l : List P.S48) (key : Int) (i : Nat) : Int :=
  let x := P.rd_T48 l i
  if 1 ≤ x.f0 ∧ x.f0 ≤ 9999 ∧ 0 ≤ x.f4 ∧ x.f4 ≤ 20000000 then (if hasID (l.take i) x.f0 = true then 7 else tl (hasBy (l.take i)) key x.f1 x.f2 x.f3 x.f4) else 2
theorem contact_at {l : List P.S48} (hl : l.length ≤ 100) (key : Int) {i : Nat} (hi : i < l.length) {k : Nat} (hk : 200 ≤ k) : P.chain_contact.f k l key (i : Int) = some (cst l key i) := by
  have hj : ∀ b : Bool, P.chain_contact.j0 k (i : Int) b l key (P.rd_T48 l i).f0 (P.rd_T48 l i).f1 (P.rd_T48 l i).f2 (P.rd_T48 l i).f3 (P.rd_T48 l i).f4 = some (if b = true then 2 else (if hasID (l.take i) (P.rd_T48 l i).f0 = true then 7 else tl (hasBy (l.take i)) key (P.rd_T48 l i).f1 (P.rd_T48 l i).f2 (P.rd_T48 l i).f3 (P.rd_T48 l i).f4)) := by
    intro b
    obtain ⟨k, rfl⟩ : ∃ q, k = q + 1 := ⟨k - 1, by omega⟩
    unfold P.chain_contact.j0
    try dsimp only
    cases b with
    | true => rfl
    | false =>
      simp only [Bool.false_eq_true, if_false]
      have := contact_l0 l hl key (P.rd_T48 l i).f0 (P.rd_T48 l i).f1 (P.rd_T48 l i).f2 (P.rd_T48 l i).f3 (P.rd_T48 l i).f4 i (by omega) i 0 k false (by omega) (by omega) (by omega)
      simpa using this
  unfold P.chain_contact.f cst
  rw [if_pos (by omega), if_pos (by omega), hj, hj]
  dsimp only
  by_cases h1 : (P.rd_T48 l i).f0 < 1
  · rw [if_pos h1, if_pos rfl, if_neg (by omega)]
  rw [if_neg h1]
  by_cases h2 : (P.rd_T48 l i).f0 > 9999
  · rw [if_pos h2, if_pos rfl, if_neg (by omega)]
  rw [if_neg h2]
  by_cases h3 : (P.rd_T48 l i).f4 < 0
  · rw [if_pos h3, if_pos rfl, if_neg (by omega)]
  rw [if_neg h3]
  by_cases h4 : (P.rd_T48 l i).f4 > 20000000
  · rw [decide_eq_true h4, if_pos rfl, if_neg (by omega)]
  · have hc : 1 ≤ (P.rd_T48 l i).f0 ∧ (P.rd_T48 l i).f0 ≤ 9999 ∧ 0 ≤ (P.rd_T48 l i).f4 ∧ (P.rd_T48 l i).f4 ≤ 20000000 := by omega
    rw [decide_eq_false h4, if_neg (by decide), if_pos hc]
/-- The first error of the contacts from i on. -/
def rgN (l : List P.S48) (key : Int) : Nat → Nat → Int
  | 0, _ => 0
  | n + 1, i => if cst l key i = 0 then rgN l key n (i + 1) else cst l key i
def rg (l : List P.S48) (key : Int) : Int := if l.length > 32 then 4 else if 0 ≤ key ∧ key ≤ 9999 then rgN l key l.length 0 else 2
theorem right_l0 (l : List P.S48) (hl : l.length ≤ 100) (key : Int) : ∀ (n j k : Nat), l.length - j = n → j ≤ l.length → n + 200 < k → P.chain_Right.l0 k (l.length : Int) (j : Int) l key = some (rgN l key n j) := by
  intro n
  induction n with
  | zero =>
    intro j k h1 h2 h3
    obtain ⟨k, rfl⟩ : ∃ q, k = q + 1 := ⟨k - 1, by omega⟩
    unfold P.chain_Right.l0
    try dsimp only
    rw [if_neg (by omega)]; rfl
  | succ n ih =>
    intro j k h1 h2 h3
    obtain ⟨k, rfl⟩ : ∃ q, k = q + 1 := ⟨k - 1, by omega⟩
    unfold P.chain_Right.l0 rgN
    try dsimp only
    rw [if_pos (by omega), contact_at hl key (by omega) (by omega), Option.bind_some]
    by_cases e : cst l key j = 0
    · rw [if_pos e, if_pos e, wrap_at (by omega) (by omega), show ((j : Int) + 1) = ((j + 1 : Nat) : Int) from by omega, ih (j + 1) k (by omega) (by omega) (by omega)]
    · rw [if_neg e, if_neg e]
theorem right_at {l : List P.S48} (hl : l.length ≤ 100) (key : Int) {k : Nat} (hk : 400 ≤ k) : P.chain_Right.f k l key = some (rg l key) := by
  have hj : ∀ b : Bool, P.chain_Right.j0 k b l key = some (if b = true then 2 else rgN l key l.length 0) := by
    intro b
    obtain ⟨k, rfl⟩ : ∃ q, k = q + 1 := ⟨k - 1, by omega⟩
    unfold P.chain_Right.j0
    try dsimp only
    cases b with
    | true => rfl
    | false =>
      rw [if_neg (by decide), if_neg (by decide)]
      exact right_l0 l hl key l.length 0 k (by omega) (by omega) (by omega)
  unfold P.chain_Right.f rg
  rw [hj, hj]
  by_cases h1 : l.length > 32
  · rw [if_pos (by omega), if_pos h1]
  rw [if_neg (by omega), if_neg h1]
  by_cases h2 : key < 0
  · rw [if_pos h2, if_pos rfl, if_neg (by omega)]
  rw [if_neg h2]
  by_cases h3 : key > 9999
  · rw [decide_eq_true h3, if_pos rfl, if_neg (by omega)]
  · rw [decide_eq_false h3, if_neg (by decide), if_pos (by omega)]
theorem ix_has (l : List P.S48) (id : Int) (i : Int) (hi : 0 ≤ i) : (ix l id i ≥ 0) ↔ hasID l id = true := by
  unfold hasID
  rcases ix_cases l id i with ⟨e, q⟩ | ⟨j, hj, e, q⟩
  · rw [e, List.any_eq_true]
    constructor
    · intro h; omega
    · rintro ⟨x, hx, h⟩; exact absurd (beq_iff_eq.1 h) (q x hx)
  · rw [e, List.any_eq_true]
    exact ⟨fun _ => ⟨l[j], List.getElem_mem _, beq_iff_eq.2 q⟩, fun _ => by omega⟩
theorem bx_has (l : List P.S48) (i : Int) (hi : 0 ≤ i) : (bx l i ≥ 0) ↔ hasBy l = true := by
  unfold hasBy
  rcases bx_cases l i with ⟨e, q⟩ | ⟨j, hj, e, q⟩
  · rw [e, List.any_eq_true]
    constructor
    · intro h; omega
    · rintro ⟨x, hx, h⟩; exact absurd (q x hx) (bne_iff_ne.1 h)
  · rw [e, List.any_eq_true]
    exact ⟨fun _ => ⟨l[j], List.getElem_mem _, bne_iff_ne.2 q⟩, fun _ => by omega⟩
theorem rright_l0 (l : List P.S48) (hl : l.length ≤ 100) (key : Int) : ∀ (n j k : Nat), l.length - j = n → j ≤ l.length → 4 * n + 300 < k → P.skiarearef16_Right.l0 k (j : Int) l key = some (rgN l key n j) := by
  intro n
  induction n with
  | zero =>
    intro j k h1 h2 h3
    obtain ⟨k, rfl⟩ : ∃ q, k = q + 1 := ⟨k - 1, by omega⟩
    unfold P.skiarearef16_Right.l0
    try dsimp only
    rw [if_neg (by omega)]; rfl
  | succ n ih =>
    intro j k h1 h2 h3
    obtain ⟨k, rfl⟩ : ∃ q, k = q + 4 := ⟨k - 4, by omega⟩
    have hn : ∀ q : Nat, 4 * n + 300 < q → P.skiarearef16_Right.l0 q (wrap64 ((j : Int) + 1)) l key = some (rgN l key n (j + 1)) := by
      intro q hq
      rw [wrap_at (by omega) (by omega), show ((j : Int) + 1) = ((j + 1 : Nat) : Int) from by omega, ih (j + 1) q (by omega) (by omega) hq]
    have htl : (l.take ((j : Int)).toNat) = l.take j := by rw [Int.toNat_natCast]
    have hlt : (l.take j).length ≤ 100 := by rw [List.length_take]; omega
    unfold rgN
    have hj1 : ∀ b : Bool, P.skiarearef16_Right.j1 (k + 3) (j : Int) b l key (P.rd_T48 l j).f0 (P.rd_T48 l j).f1 (P.rd_T48 l j).f2 (P.rd_T48 l j).f3 (P.rd_T48 l j).f4 =
        if b = true then some 2 else if hasID (l.take j) (P.rd_T48 l j).f0 = true then some 7 else if tl (hasBy (l.take j)) key (P.rd_T48 l j).f1 (P.rd_T48 l j).f2 (P.rd_T48 l j).f3 (P.rd_T48 l j).f4 = 0 then some (rgN l key n (j + 1)) else some (tl (hasBy (l.take j)) key (P.rd_T48 l j).f1 (P.rd_T48 l j).f2 (P.rd_T48 l j).f3 (P.rd_T48 l j).f4) := by
      intro b
      unfold P.skiarearef16_Right.j1
      try dsimp only
      cases b with
      | true => rfl
      | false =>
        simp only [Bool.false_eq_true, if_false]
        rw [if_pos (by omega), if_pos (by omega), htl, index_at hlt _ (by omega), Option.bind_some]
        by_cases hid : hasID (l.take j) (P.rd_T48 l j).f0 = true
        · rw [if_pos hid, if_pos ((ix_has _ _ 0 (by omega)).2 hid)]
        rw [if_neg hid, if_neg (fun h => hid ((ix_has _ _ 0 (by omega)).1 h))]
        have hj3 : ∀ z : Bool, P.skiarearef16_Right.j3 (k + 1) (j : Int) z l key (P.rd_T48 l j).f0 (P.rd_T48 l j).f1 (P.rd_T48 l j).f2 (P.rd_T48 l j).f3 (P.rd_T48 l j).f4 =
            if z = true then some 13 else if (P.rd_T48 l j).f4 = 0 then some (rgN l key n (j + 1)) else if key = 0 then some 15 else if hasBy (l.take j) = true then some 15 else some (rgN l key n (j + 1)) := by
          intro z
          unfold P.skiarearef16_Right.j3
          try dsimp only
          rw [hn k (by omega), htl, byp_at hlt (by omega), Option.bind_some, if_pos (show (0 : Int) ≤ j by omega), if_pos (show (j : Int) ≤ l.length by omega)]
          by_cases hb : hasBy (l.take j) = true
          · rw [if_pos hb, if_pos ((bx_has _ 0 (by omega)).2 hb)]
          · rw [if_neg hb, if_neg (fun h => hb ((bx_has _ 0 (by omega)).1 h))]
        have hj2 : ∀ z : Bool, P.skiarearef16_Right.j2 (k + 2) (j : Int) z l key (P.rd_T48 l j).f0 (P.rd_T48 l j).f1 (P.rd_T48 l j).f2 (P.rd_T48 l j).f3 (P.rd_T48 l j).f4 =
            if z = true then some 10 else if ((P.rd_T48 l j).f1 && (P.rd_T48 l j).f4 != 0) = true then some 13 else if (P.rd_T48 l j).f4 = 0 then some (rgN l key n (j + 1)) else if key = 0 then some 15 else if hasBy (l.take j) = true then some 15 else some (rgN l key n (j + 1)) := by
          intro z
          unfold P.skiarearef16_Right.j2
          try dsimp only
          rw [hj3, hj3]
          cases (P.rd_T48 l j).f1 <;> simp
        rw [hj2, hj2]
        unfold tl
        cases (P.rd_T48 l j).f2 <;> cases (P.rd_T48 l j).f3 <;> simp only [Bool.not_true, Bool.not_false, Bool.and_true, Bool.and_false, Bool.false_and, Bool.true_and, if_true, Bool.false_eq_true, if_false]
        all_goals (by_cases q1 : ((P.rd_T48 l j).f1 && (P.rd_T48 l j).f4 != 0) = true)
        all_goals (by_cases q2 : (P.rd_T48 l j).f4 = 0)
        all_goals (by_cases q3 : key = 0)
        all_goals (by_cases q4 : hasBy (l.take j) = true)
        all_goals simp [q1, q2, q3, q4]
    unfold P.skiarearef16_Right.l0
    try dsimp only
    rw [if_pos (by omega), if_pos (by omega), in_at, in_at, Option.bind_some, Option.bind_some, hj1, hj1]
    unfold cst
    dsimp only
    by_cases h5 : 1 ≤ (P.rd_T48 l j).f0 ∧ (P.rd_T48 l j).f0 ≤ 9999
    · rw [decide_eq_true h5, if_pos rfl]
      by_cases h6 : 0 ≤ (P.rd_T48 l j).f4 ∧ (P.rd_T48 l j).f4 ≤ 20000000
      · rw [decide_eq_true h6, if_pos (show 1 ≤ (P.rd_T48 l j).f0 ∧ (P.rd_T48 l j).f0 ≤ 9999 ∧ 0 ≤ (P.rd_T48 l j).f4 ∧ (P.rd_T48 l j).f4 ≤ 20000000 from ⟨h5.1, h5.2, h6.1, h6.2⟩), if_neg (by decide)]
        by_cases hid : hasID (l.take j) (P.rd_T48 l j).f0 = true
        · rw [if_pos hid, if_pos hid, if_neg (by decide)]
        · rw [if_neg hid, if_neg hid]
          by_cases q : tl (hasBy (l.take j)) key (P.rd_T48 l j).f1 (P.rd_T48 l j).f2 (P.rd_T48 l j).f3 (P.rd_T48 l j).f4 = 0
          · rw [if_pos q, if_pos q]
          · rw [if_neg q, if_neg q]
      · rw [decide_eq_false h6, if_neg (show ¬ (1 ≤ (P.rd_T48 l j).f0 ∧ (P.rd_T48 l j).f0 ≤ 9999 ∧ 0 ≤ (P.rd_T48 l j).f4 ∧ (P.rd_T48 l j).f4 ≤ 20000000) from fun h => h6 ⟨h.2.2.1, h.2.2.2⟩)]; simp
    · rw [decide_eq_false h5, if_neg (by decide), if_neg (show ¬ (1 ≤ (P.rd_T48 l j).f0 ∧ (P.rd_T48 l j).f0 ≤ 9999 ∧ 0 ≤ (P.rd_T48 l j).f4 ∧ (P.rd_T48 l j).f4 ≤ 20000000) from fun h => h5 ⟨h.1, h.2.1⟩)]; simp
theorem rright_at {l : List P.S48} (hl : l.length ≤ 100) (key : Int) {k : Nat} (hk : 1000 ≤ k) : P.skiarearef16_Right.f k l key = some (rg l key) := by
  unfold P.skiarearef16_Right.f rg
  by_cases h1 : l.length > 32
  · rw [if_pos (by omega), if_pos h1]
  rw [if_neg (by omega), if_neg h1, in_at, Option.bind_some]
  by_cases h2 : 0 ≤ key ∧ key ≤ 9999
  · rw [decide_eq_true h2, if_pos rfl, if_pos h2]
    exact rright_l0 l hl key l.length 0 k (by omega) (by omega) (by omega)
  · rw [decide_eq_false h2, if_neg (by decide), if_neg h2]
theorem rright_long {l : List P.S48} (hl : l.length > 32) (key : Int) (k : Nat) : P.skiarearef16_Right.f k l key = some 4 := by
  unfold P.skiarearef16_Right.f; rw [if_pos (by omega)]
theorem right_long {l : List P.S48} (hl : l.length > 32) (key : Int) (k : Nat) : P.chain_Right.f k l key = some 4 := by
  unfold P.chain_Right.f; rw [if_pos (by omega)]
end Go.Proofs.Yteepdedbldnccaa.Pure
