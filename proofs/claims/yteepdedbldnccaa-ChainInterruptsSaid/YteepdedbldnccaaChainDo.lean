/- The safety chain: any operation, and what it keeps. -/
import Derived.Test.YteepdedbldnccaaChain
import Derived.Test.YteepdedbldnccaaPx36
import Derived.Test.YteepdedbldnccaaPx37
namespace Go.Proofs.Yteepdedbldnccaa.Pure
set_option linter.unusedVariables false
set_option linter.unusedSimpArgs false
open Go.RowKit Go.Proofs.YteepdedbldnccaaW.PrintWords Go.Proofs.YteepdedbldnccaaW.PrintLast Go.Proofs.YteepdedbldnccaaW.PrintMore Go.Proofs.Yteepdedbldnccaa
def G (l : List P.S48) (i : Nat) : P.S48 := l.getD i P.z48
theorem G_at {l : List P.S48} {i : Nat} (h : i < l.length) : l[i] = G l i := by unfold G; rw [List.getD_eq_getElem?_getD, List.getElem?_eq_getElem h]; rfl
theorem G_rd (l : List P.S48) (i : Nat) : P.rd_T48 l (i : Int) = G l i := by unfold P.rd_T48 G; rw [Int.toNat_natCast]
theorem G_set {l : List P.S48} {j : Nat} (hj : j < l.length) (y : P.S48) (i : Nat) : G (l.set j y) i = if i = j then y else G l i := by
  unfold G
  rw [List.getD_eq_getElem?_getD, List.getD_eq_getElem?_getD]
  by_cases h : i = j
  · subst h; rw [if_pos rfl, List.getElem?_set_self hj]; rfl
  · rw [if_neg h, List.getElem?_set_ne (fun e => h e.symm)]
theorem G_map (f : P.S48 → P.S48) {l : List P.S48} {i : Nat} (h : i < l.length) : G (l.map f) i = f (G l i) := by
  have h2 : i < (l.map f).length := by rw [List.length_map]; exact h
  rw [← G_at h2, ← G_at h, List.getElem_map]
theorem VG (l : List P.S48) (key : Int) : V l key ↔ l.length ≤ 32 ∧ 0 ≤ key ∧ key ≤ 9999 ∧ (∀ i : Nat, i < l.length → okx key (G l i)) ∧ (∀ i j : Nat, j < l.length → i < j → (G l i).f0 ≠ (G l j).f0 ∧ ((G l i).f4 = 0 ∨ (G l j).f4 = 0)) := by
  unfold V
  constructor
  · rintro ⟨a, b, c, d, e⟩
    refine ⟨a, b, c, fun i hi => ?_, fun i j hj hij => ?_⟩
    · rw [← G_at hi]; exact d i hi
    · rw [← G_at hj, ← G_at (show i < l.length by omega)]; exact e i j (by omega) hj hij
  · rintro ⟨a, b, c, d, e⟩
    refine ⟨a, b, c, fun i hi => ?_, fun i j hi hj hij => ?_⟩
    · rw [G_at hi]; exact d i hi
    · rw [G_at hj, G_at hi]; exact e i j hj hij
def Keep (l l' : List P.S48) : Prop := l'.length = l.length ∧ ∀ i : Nat, i < l.length → (G l' i).f0 = (G l i).f0 ∧ (G l' i).f1 = (G l i).f1
theorem Keep.refl (l : List P.S48) : Keep l l := ⟨rfl, fun _ _ => ⟨rfl, rfl⟩⟩
theorem Keep.trans {a b c : List P.S48} (h : Keep a b) (h' : Keep b c) : Keep a c :=
  ⟨h'.1.trans h.1, fun i hi => ⟨(h'.2 i (by rw [h.1]; exact hi)).1.trans (h.2 i hi).1, (h'.2 i (by rw [h.1]; exact hi)).2.trans (h.2 i hi).2⟩⟩
theorem V_of {l l' : List P.S48} {key key' : Int} (hV : V l key) (hk : 0 ≤ key' ∧ key' ≤ 9999) (hlen : l'.length = l.length) (h : ∀ i : Nat, i < l.length → (G l' i).f0 = (G l i).f0 ∧ (G l' i).f1 = (G l i).f1 ∧ okx key' (G l' i))
    (hp : ∀ i j : Nat, j < l.length → i < j → (G l' i).f4 = 0 ∨ (G l' j).f4 = 0) : V l' key' ∧ Keep l l' := by
  have hV' := (VG l key).1 hV
  refine ⟨(VG l' key').2 ⟨by rw [hlen]; exact hV'.1, hk.1, hk.2, fun i hi => (h i (by omega)).2.2, fun i j hj hij => ⟨?_, hp i j (by omega) hij⟩⟩, hlen, fun i hi => ⟨(h i hi).1, (h i hi).2.1⟩⟩
  rw [(h i (by omega)).1, (h j (by omega)).1]
  exact (hV'.2.2.2.2 i j (by omega) hij).1
/-- One element put, whose ID and Critical stay. -/
theorem V_set {l : List P.S48} {key : Int} (hV : V l key) {j : Nat} (hj : j < l.length) {y : P.S48} (h0 : y.f0 = (G l j).f0) (h1 : y.f1 = (G l j).f1) (hy : okx key y)
    (h4 : y.f4 = (G l j).f4 ∨ ∀ m : Nat, m < l.length → m ≠ j → (G l m).f4 = 0) : V (l.set j y) key ∧ Keep l (l.set j y) := by
  have hV' := (VG l key).1 hV
  refine V_of hV ⟨hV'.2.1, hV'.2.2.1⟩ (List.length_set ..) (fun i hi => ?_) (fun i m hm him => ?_)
  · rw [G_set hj]
    by_cases e : i = j
    · subst e; rw [if_pos rfl]; exact ⟨h0, h1, hy⟩
    · rw [if_neg e]; exact ⟨rfl, rfl, hV'.2.2.2.1 i hi⟩
  · have hq := (hV'.2.2.2.2 i m hm him).2
    rw [G_set hj, G_set hj]
    by_cases e : i = j
    · subst e
      rw [if_pos rfl, if_neg (show ¬ m = i by omega)]
      rcases h4 with h4 | h4
      · rw [h4]; exact hq
      · exact .inr (h4 m hm (by omega))
    · rw [if_neg e]
      by_cases e2 : m = j
      · subst e2
        rw [if_pos rfl]
        rcases h4 with h4 | h4
        · rw [h4]; exact hq
        · exact .inl (h4 i (by omega) e)
      · rw [if_neg e2]; exact hq
def doR (l : List P.S48) (key kind id who tm : Int) : List P.S48 × Int × Bool :=
  if kind = 0 then (if (breakR l key id).2.2 = 0 then ((breakR l key id).1, (breakR l key id).2.1, true) else (l, key, false))
  else if kind = 1 then (if (makeR l key id).2.2 = 0 then ((makeR l key id).1, (makeR l key id).2.1, true) else (l, key, false))
  else if kind = 2 then (if (clearR l key id who).2.2 = 0 then ((clearR l key id who).1, (clearR l key id who).2.1, true) else (l, key, false))
  else if kind = 3 then (if (takeR l key who).2.2 = 0 then ((takeR l key who).1, (takeR l key who).2.1, true) else (l, key, false))
  else if kind = 4 then (if (bypR l key id who tm).2.2 = 0 then ((bypR l key id who tm).1, (bypR l key id who tm).2.1, true) else (l, key, false))
  else (l.map (exx tm), key, true)
theorem do_at {l : List P.S48} (hl : l.length ≤ 100) (key kind id who tm : Int) {k : Nat} (hk : 200 ≤ k) : P.skiarealaw16_do.f k l key kind id who tm = some (doR l key kind id who tm) := by
  unfold P.skiarealaw16_do.f doR
  rw [break_at hl, make_at hl, clear_at hl, take_at hl _ _ hk, bypass_at hl _ _ _ _ hk, expire_at hl _ _ hk]
  simp only [Option.bind_some, if_true]
  by_cases h0 : kind = 0
  · rw [if_pos h0, if_pos h0]; split <;> rfl
  rw [if_neg h0, if_neg h0]
  by_cases h1 : kind = 1
  · rw [if_pos h1, if_pos h1]; split <;> rfl
  rw [if_neg h1, if_neg h1]
  by_cases h2 : kind = 2
  · rw [if_pos h2, if_pos h2]; split <;> rfl
  rw [if_neg h2, if_neg h2]
  by_cases h3 : kind = 3
  · rw [if_pos h3, if_pos h3]; split <;> rfl
  rw [if_neg h3, if_neg h3]
  by_cases h4 : kind = 4
  · rw [if_pos h4, if_pos h4]; split <;> rfl
  · rw [if_neg h4, if_neg h4]
theorem oth_false (l : List P.S48) (i : Int) : ∀ n : Nat, oth l i n = false → ∀ m : Nat, m < n → (m : Int) ≠ i → (G l m).f4 = 0 := by
  intro n
  induction n with
  | zero => intro _ m hm; exact absurd hm (Nat.not_lt_zero _)
  | succ n ih =>
    intro h m hm hi
    unfold oth at h
    rw [Bool.or_eq_false_iff] at h
    rcases Nat.lt_or_ge m n with h3 | h3
    · exact ih h.1 m h3 hi
    · obtain rfl : m = n := by omega
      have h2 := h.2
      rw [G_rd, show ((m : Int) != i) = true from bne_iff_ne.2 hi, Bool.true_and] at h2
      exact bne_eq_false_iff_eq.1 h2
/-- What an operation does with a right chain: it stays right, and the contact with an ID is changed as told. -/
structure Did (l : List P.S48) (key kind oid who tm : Int) (r : List P.S48 × Int × Bool) : Prop where
  v : V r.1 r.2.1
  keep : Keep l r.1
  no : r.2.2 = false → r.1 = l
  far : ∀ i : Nat, i < l.length → (G l i).f0 ≠ oid → (G r.1 i).f2 = (G l i).f2 ∧ (G r.1 i).f3 = (G l i).f3 ∧ ((G r.1 i).f4 = (G l i).f4 ∨ (G r.1 i).f4 = 0)
  brk : r.2.2 = true → kind = 0 → ∀ i : Nat, i < l.length → (G l i).f0 = oid → (G r.1 i).f3 = true ∧ (G r.1 i).f4 = (G l i).f4
  clr : r.2.2 = true → kind = 2 → ∀ i : Nat, i < l.length → (G l i).f0 = oid → (G r.1 i).f2 = true ∧ (G r.1 i).f3 = false ∧ (G r.1 i).f4 = (G l i).f4
  byp : r.2.2 = true → kind = 4 → who ≠ 0 ∧ who = key ∧ ∀ i : Nat, i < l.length → (G l i).f0 = oid → (G r.1 i).f2 = (G l i).f2 ∧ (G r.1 i).f3 = (G l i).f3 ∧ (G r.1 i).f4 = tm
  els : r.2.2 = true → kind ≠ 0 → kind ≠ 2 → kind ≠ 4 → ∀ i : Nat, i < l.length → ((G r.1 i).f2 = (G l i).f2 ∨ (G r.1 i).f2 = true) ∧ (G r.1 i).f3 = (G l i).f3 ∧ ((G r.1 i).f4 = (G l i).f4 ∨ (G r.1 i).f4 = 0)
theorem Did.none {l : List P.S48} {key kind oid who tm : Int} (hV : V l key) : Did l key kind oid who tm (l, key, false) :=
  ⟨hV, Keep.refl l, fun _ => rfl, fun i _ _ => ⟨rfl, rfl, .inl rfl⟩, fun h => (by cases h), fun h => (by cases h), fun h => (by cases h), fun h => (by cases h)⟩
theorem uniq {l : List P.S48} {key : Int} (hV : V l key) {i j : Nat} (hi : i < l.length) (hj : j < l.length) (h : (G l i).f0 = (G l j).f0) : i = j := by
  have hV' := (VG l key).1 hV
  rcases Nat.lt_trichotomy i j with q | q | q
  · exact absurd h (hV'.2.2.2.2 i j hj q).1
  · exact q
  · exact absurd h.symm (hV'.2.2.2.2 j i hi q).1
theorem did {l : List P.S48} {key : Int} (hV : V l key) (kind oid who tm : Int) : Did l key kind oid who tm (doR l key kind oid who tm) := by
  have hV' := (VG l key).1 hV
  have hone : ∀ (j : Nat) (hj : j < l.length) (hid : (G l j).f0 = oid) (f : P.S48 → P.S48), (∀ i : Nat, i < l.length → (G l i).f0 ≠ oid → G (l.set j (f (G l j))) i = G l i) ∧ (∀ i : Nat, i < l.length → (G l i).f0 = oid → G (l.set j (f (G l j))) i = f (G l i)) := by
    intro j hj hid f
    constructor
    · intro i hi h
      rw [G_set hj, if_neg (fun e => h (by rw [e]; exact hid))]
    · intro i hi h
      obtain rfl := uniq hV hi hj (by rw [h, hid])
      rw [G_set hj, if_pos rfl]
  unfold doR
  by_cases h0 : kind = 0
  · rw [if_pos h0]
    unfold breakR
    rcases ix_range l oid with e | ⟨j, hj, e, hid⟩
    · rw [e, if_pos (show (-1 : Int) < 0 by decide), if_neg (show ¬ ((8 : Int) = 0) by decide)]; exact Did.none hV
    · rw [G_at hj] at hid
      rw [e, if_neg (show ¬ ((j : Int) < 0) by omega), if_pos rfl, G_rd, Int.toNat_natCast]
      obtain ⟨a, b⟩ := hone j hj hid Pure.brk
      have hok := hV'.2.2.2.1 j hj
      have hv := V_set hV hj (y := Pure.brk (G l j)) rfl rfl ⟨hok.1, hok.2.1, hok.2.2.1, hok.2.2.2.1, .inr rfl, hok.2.2.2.2.2.1, hok.2.2.2.2.2.2⟩ (.inl rfl)
      exact ⟨hv.1, hv.2, fun h => (by cases h), fun i hi h => by rw [a i hi h]; exact ⟨rfl, rfl, .inl rfl⟩, fun _ _ i hi h => by rw [b i hi h]; exact ⟨rfl, rfl⟩, fun _ h => absurd h (by omega), fun _ h => absurd h (by omega), fun _ h => absurd h0 h⟩
  rw [if_neg h0]
  by_cases h1 : kind = 1
  · rw [if_pos h1]
    unfold makeR
    rcases ix_range l oid with e | ⟨j, hj, e, hid⟩
    · rw [e, if_pos (show (-1 : Int) < 0 by decide), if_neg (show ¬ ((8 : Int) = 0) by decide)]; exact Did.none hV
    · rw [G_at hj] at hid
      rw [e, if_neg (show ¬ ((j : Int) < 0) by omega), if_pos rfl, G_rd, Int.toNat_natCast]
      obtain ⟨a, b⟩ := hone j hj hid mak
      have hok := hV'.2.2.2.1 j hj
      have hv := V_set hV hj (y := mak (G l j)) rfl rfl ⟨hok.1, hok.2.1, hok.2.2.1, hok.2.2.2.1, .inl rfl, hok.2.2.2.2.2.1, hok.2.2.2.2.2.2⟩ (.inl rfl)
      refine ⟨hv.1, hv.2, fun h => (by cases h), fun i hi h => by rw [a i hi h]; exact ⟨rfl, rfl, .inl rfl⟩, fun _ h => absurd h h0, fun _ h => absurd h (by omega), fun _ h => absurd h (by omega), fun _ _ _ _ i hi => ?_⟩
      by_cases h : (G l i).f0 = oid
      · rw [b i hi h]; exact ⟨.inr rfl, rfl, .inl rfl⟩
      · rw [a i hi h]; exact ⟨.inl rfl, rfl, .inl rfl⟩
  rw [if_neg h1]
  by_cases h2 : kind = 2
  · rw [if_pos h2]
    unfold clearR
    rcases ix_range l oid with e | ⟨j, hj, e, hid⟩
    · rw [e, if_pos (show (-1 : Int) < 0 by decide), if_neg (show ¬ ((8 : Int) = 0) by decide)]; exact Did.none hV
    · rw [G_at hj] at hid
      rw [e, if_neg (show ¬ ((j : Int) < 0) by omega), G_rd, Int.toNat_natCast]
      by_cases hp : 1 ≤ who ∧ who ≤ 9999
      · rw [if_pos hp]
        by_cases hc : (G l j).f2 = true
        · rw [if_pos hc, if_pos rfl]
          obtain ⟨a, b⟩ := hone j hj hid Pure.clr
          have hok := hV'.2.2.2.1 j hj
          have hv := V_set hV hj (y := Pure.clr (G l j)) rfl rfl ⟨hok.1, hok.2.1, hok.2.2.1, hok.2.2.2.1, .inl hc, hok.2.2.2.2.2.1, hok.2.2.2.2.2.2⟩ (.inl rfl)
          refine ⟨hv.1, hv.2, fun h => (by cases h), fun i hi h => by rw [a i hi h]; exact ⟨rfl, rfl, .inl rfl⟩, fun _ h => absurd h h0, fun _ _ i hi h => ?_, fun _ h => absurd h (by omega), fun _ _ h => absurd h2 h⟩
          have hij := uniq hV hi hj (by rw [h, hid])
          rw [b i hi h, hij]
          exact ⟨hc, rfl, rfl⟩
        · rw [if_neg hc, if_neg (by decide)]; exact Did.none hV
      · rw [if_neg hp, if_neg (by decide)]; exact Did.none hV
  rw [if_neg h2]
  by_cases h3 : kind = 3
  · rw [if_pos h3]
    unfold takeR
    by_cases hp : 1 ≤ who ∧ who ≤ 9999
    · rw [if_pos hp]
      by_cases hk : key = 0
      · rw [if_pos hk, if_pos rfl]
        have hv := V_of (l' := l) (key' := who) hV ⟨by omega, hp.2⟩ rfl (fun i hi => ⟨rfl, rfl, by have hok := hV'.2.2.2.1 i hi; exact ⟨hok.1, hok.2.1, hok.2.2.1, hok.2.2.2.1, hok.2.2.2.2.1, hok.2.2.2.2.2.1, fun _ => by omega⟩⟩) (fun i j hj hij => (hV'.2.2.2.2 i j hj hij).2)
        exact ⟨hv.1, hv.2, fun h => (by cases h), fun i hi h => ⟨rfl, rfl, .inl rfl⟩, fun _ h => absurd h h0, fun _ h => absurd h h2, fun _ h => absurd h (by omega), fun _ _ _ _ i hi => ⟨.inl rfl, rfl, .inl rfl⟩⟩
      · rw [if_neg hk]
        by_cases hw : key = who
        · rw [if_pos hw, if_pos rfl]
          have hm : ∀ i : Nat, i < l.length → G (l.map (unt 0)) i = unt 0 (G l i) := fun i hi => G_map _ hi
          have hv := V_of (l' := l.map (unt 0)) (key' := 0) hV ⟨by omega, by omega⟩ (List.length_map ..) (fun i hi => by
            have hok := hV'.2.2.2.1 i hi
            rw [hm i hi]
            exact ⟨rfl, rfl, hok.1, hok.2.1, Int.le_refl 0, (by decide : (0 : Int) ≤ 20000000), hok.2.2.2.2.1, fun _ => rfl, fun h => absurd rfl h⟩) (fun i j hj hij => by rw [hm j hj]; exact .inr rfl)
          exact ⟨hv.1, hv.2, fun h => (by cases h), fun i hi h => by rw [hm i hi]; exact ⟨rfl, rfl, .inr rfl⟩, fun _ h => absurd h h0, fun _ h => absurd h h2, fun _ h => absurd h (by omega), fun _ _ _ _ i hi => by rw [hm i hi]; exact ⟨.inl rfl, rfl, .inr rfl⟩⟩
        · rw [if_neg hw, if_neg (by decide)]; exact Did.none hV
    · rw [if_neg hp, if_neg (by decide)]; exact Did.none hV
  rw [if_neg h3]
  by_cases h4 : kind = 4
  · rw [if_pos h4]
    unfold bypR
    rcases ix_range l oid with e | ⟨j, hj, e, hid⟩
    · rw [e, if_pos (show (-1 : Int) < 0 by decide), if_neg (show ¬ ((8 : Int) = 0) by decide)]; exact Did.none hV
    · rw [G_at hj] at hid
      rw [e, if_neg (show ¬ ((j : Int) < 0) by omega), G_rd, Int.toNat_natCast]
      by_cases hw : who = 0 ∨ who ≠ key
      · rw [if_pos hw, if_neg (by decide)]; exact Did.none hV
      rw [if_neg hw]
      by_cases hc : (G l j).f1 = true
      · rw [if_pos hc, if_neg (by decide)]; exact Did.none hV
      rw [if_neg hc]
      by_cases ho : oth l (j : Int) l.length = true
      · rw [if_pos ho, if_neg (by decide)]; exact Did.none hV
      rw [if_neg ho]
      by_cases hu : 1 ≤ tm ∧ tm ≤ 20000000
      · rw [if_pos hu, if_pos rfl]
        obtain ⟨a, b⟩ := hone j hj hid (unt tm)
        have hok := hV'.2.2.2.1 j hj
        have hkey : who ≠ 0 ∧ who = key := ⟨fun h => hw (.inl h), Decidable.byContradiction fun h => hw (.inr h)⟩
        have hz := oth_false l (j : Int) l.length (by simpa using ho)
        have hv := V_set hV hj (y := unt tm (G l j)) rfl rfl ⟨hok.1, hok.2.1, (by omega : 0 ≤ tm), hu.2, hok.2.2.2.2.1, fun h => absurd h hc, fun _ => by rw [← hkey.2]; exact hkey.1⟩ (.inr fun m hm hne => hz m hm (by omega))
        exact ⟨hv.1, hv.2, fun h => (by cases h), fun i hi h => by rw [a i hi h]; exact ⟨rfl, rfl, .inl rfl⟩, fun _ h => absurd h h0, fun _ h => absurd h h2, fun _ _ => ⟨hkey.1, hkey.2, fun i hi h => by rw [b i hi h]; exact ⟨rfl, rfl, rfl⟩⟩, fun _ _ _ h => absurd h4 h⟩
      · rw [if_neg hu, if_neg (by decide)]; exact Did.none hV
  rw [if_neg h4]
  have hm : ∀ i : Nat, i < l.length → G (l.map (exx tm)) i = exx tm (G l i) := fun i hi => G_map _ hi
  have hx : ∀ x : P.S48, (exx tm x).f0 = x.f0 ∧ (exx tm x).f1 = x.f1 ∧ (exx tm x).f2 = x.f2 ∧ (exx tm x).f3 = x.f3 ∧ ((exx tm x).f4 = x.f4 ∨ (exx tm x).f4 = 0) := by
    intro x; unfold exx
    by_cases q : x.f4 ≤ tm
    · rw [if_pos q]; exact ⟨rfl, rfl, rfl, rfl, .inr rfl⟩
    · rw [if_neg q]; exact ⟨rfl, rfl, rfl, rfl, .inl rfl⟩
  have hv := V_of (l' := l.map (exx tm)) (key' := key) hV ⟨hV'.2.1, hV'.2.2.1⟩ (List.length_map ..) (fun i hi => by
    have hok := hV'.2.2.2.1 i hi
    rw [hm i hi]
    obtain ⟨x0, x1, x2, x3, x4⟩ := hx (G l i)
    refine ⟨x0, x1, ?_⟩
    unfold okx
    rw [x0, x1, x2, x3]
    rcases x4 with x4 | x4
    · rw [x4]; exact hok
    · rw [x4]; exact ⟨hok.1, hok.2.1, Int.le_refl 0, by decide, hok.2.2.2.2.1, fun _ => rfl, fun h => absurd rfl h⟩) (fun i j hj hij => by
    rw [hm j hj, hm i (by omega)]
    rcases (hV'.2.2.2.2 i j hj hij).2 with q | q
    · rcases (hx (G l i)).2.2.2.2 with y | y
      · exact .inl (y.trans q)
      · exact .inl y
    · rcases (hx (G l j)).2.2.2.2 with y | y
      · exact .inr (y.trans q)
      · exact .inr y)
  exact ⟨hv.1, hv.2, fun h => (by cases h), fun i hi h => by rw [hm i hi]; exact ⟨(hx _).2.2.1, (hx _).2.2.2.1, (hx _).2.2.2.2⟩, fun _ h => absurd h h0, fun _ h => absurd h h2, fun _ h => absurd h h4, fun _ _ _ _ i hi => by rw [hm i hi]; exact ⟨.inl (hx _).2.2.1, (hx _).2.2.2.1, (hx _).2.2.2.2⟩⟩
end Go.Proofs.Yteepdedbldnccaa.Pure
