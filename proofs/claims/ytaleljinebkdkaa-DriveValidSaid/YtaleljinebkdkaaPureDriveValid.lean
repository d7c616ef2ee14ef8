/- The plain law of DriveValid: the printed function answers true for all numbers and every list. -/
import Derived.Test.YtaleljinebkdkaaDrive
import Derived.Test.YtaleljinebkdkaaPx32
namespace Go.Proofs.Ytaleljinebkdkaa.Pure
set_option linter.unusedVariables false
set_option linter.unusedSimpArgs false
open Go.RowKit Go.Proofs.YtaleljinebkdkaaW.PrintWords Go.Proofs.YtaleljinebkdkaaW.PrintLast Go.Proofs.YtaleljinebkdkaaW.PrintMore Go.Proofs.Ytaleljinebkdkaa
def ok42 (x : P.S42) : Prop := I64 x.f0 ∧ I64 x.f1
theorem emer_stays (u dn s : Int) : ∀ (n : Nat) (st v t mv : Int), st = 3 → (secs u dn s n (st, v, t, mv)).1 = 3
  | 0, _, _, _, _, h => h
  | n + 1, st, v, t, mv, h => by
    show (secs u dn s n (sec u dn s (st, v, t, mv))).1 = 3
    exact emer_stays u dn s n _ _ _ _ (by simp only; rw [if_neg (by omega)]; exact h)
theorem valid_j2 {m u dn s d0 d1 d2 d3 x0 x1 x2 x3 i e kind : Int} {l : List P.S42} {k : Nat} (hk : 2 ≤ k) (hd : VD m (d0, d1, d2, d3)) (h0 : 0 ≤ i) (h1 : i < (l.length : Int)) (hl : (l.length : Int) ≤ 60) (hkind : (P.rd_T42 l i).f0 = kind)
    (hx : e = 0 → VD m (x0, x1, x2, x3) ∧ (0 ≤ kind → kind ≤ 3 → x3 = d3 ∧ x1 = d1) ∧ (d0 = 3 → kind = 3 ∨ x0 = 3)) (hz : e ≠ 0 → x0 = 0 ∧ x1 = 0 ∧ x2 = 0 ∧ x3 = 0)
    (next : ∀ y0 y1 y2 y3, VD m (y0, y1, y2, y3) → P.skiarealaw14_DriveValid.l0 k l (i + 1) m u dn s y0 y1 y2 y3 = some true) :
    P.skiarealaw14_DriveValid.j2 (k + 1) l i e m u dn s d0 d1 d2 d3 x0 x1 x2 x3 = some true := by
  obtain ⟨k, rfl⟩ : ∃ j, k = j + 2 := ⟨k - 2, by omega⟩
  rw [P.skiarealaw14_DriveValid.j2]
  rw [wrap_at (x := i + 1) (by omega) (by omega), hkind]
  by_cases he : e = 0
  · obtain ⟨hv, hm, h3⟩ := hx he
    have hn := next x0 x1 x2 x3 hv
    rw [if_pos he, valid_at, Option.bind_some, if_pos (by simpa using hv), if_pos h0, if_pos h1, hn]
    by_cases a : kind ≥ 0
    · by_cases b : kind ≤ 3
      · obtain ⟨e1, e2⟩ := hm a b
        rw [if_pos a, if_pos b, if_pos e1, if_pos e2]
        by_cases c : d0 = 3
        · rcases h3 c with h | h
          · rw [if_pos c, if_pos h]
          · rw [if_pos c, if_pos h]; split <;> rfl
        · rw [if_neg c]
      · rw [if_pos a, if_neg b]
        by_cases c : d0 = 3
        · rcases h3 c with h | h
          · rw [if_pos c, if_pos h]
          · rw [if_pos c, if_pos h]; split <;> rfl
        · rw [if_neg c]
    · rw [if_neg a]
      by_cases c : d0 = 3
      · rcases h3 c with h | h
        · rw [if_pos c, if_pos h]
        · rw [if_pos c, if_pos h]; split <;> rfl
      · rw [if_neg c]
  · obtain ⟨rfl, rfl, rfl, rfl⟩ := hz he
    rw [if_neg he, if_neg (by decide)]
    exact next d0 d1 d2 d3 hd
theorem valid_l0 {m u dn s : Int} (hm : VM m u dn s) (l : List P.S42) (hl : (l.length : Int) ≤ 60) : ∀ (r k : Nat) (i d0 d1 d2 d3 : Int), VD m (d0, d1, d2, d3) → 0 ≤ i → (l.length : Int) - i = r → 2 * r + 3700 ≤ k →
    P.skiarealaw14_DriveValid.l0 k l i m u dn s d0 d1 d2 d3 = some true := by
  intro r
  induction r with
  | zero =>
    intro k i d0 d1 d2 d3 hd hi hr hk
    obtain ⟨k, rfl⟩ : ∃ j, k = j + 1 := ⟨k - 1, by omega⟩
    rw [P.skiarealaw14_DriveValid.l0, if_neg (by omega)]
  | succ r ih =>
    intro k i d0 d1 d2 d3 hd hi hr hk
    obtain ⟨k, rfl⟩ : ∃ j, k = j + 2 := ⟨k - 2, by omega⟩
    have hlt : i < (l.length : Int) := by omega
    have next : ∀ y0 y1 y2 y3, VD m (y0, y1, y2, y3) → P.skiarealaw14_DriveValid.l0 k l (i + 1) m u dn s y0 y1 y2 y3 = some true := fun y0 y1 y2 y3 hy => ih k (i + 1) y0 y1 y2 y3 hy (by omega) (by omega) (by omega)
    have hd' := hd
    unfold VD at hd'
    simp only at hd'
    have hm' := hm
    unfold VM at hm'
    rw [P.skiarealaw14_DriveValid.l0, if_pos hlt, if_pos hi]
    generalize hkind : (P.rd_T42 l i).f0 = kind
    generalize (P.rd_T42 l i).f1 = N
    by_cases k0 : kind = 0
    · rw [if_pos k0]
      unfold P.drive_Start.f
      simp only [P.drive_Start.j0, in_at, Option.bind_some]
      by_cases c2 : d0 = 2
      · rw [if_pos c2, if_pos trivial, Option.bind_some]
        exact valid_j2 (by omega) hd hi hlt hl hkind (fun h => absurd h (by decide)) (fun _ => ⟨rfl, rfl, rfl, rfl⟩) next
      · rw [if_neg c2]
        by_cases c3 : d0 = 3
        · rw [if_pos (by simp [c3]), Option.bind_some]
          exact valid_j2 (by omega) hd hi hlt hl hkind (fun h => absurd h (by decide)) (fun _ => ⟨rfl, rfl, rfl, rfl⟩) next
        · rw [if_neg (by simp [c3])]
          by_cases hN : 1 ≤ N ∧ N ≤ m
          · rw [if_pos (by simpa using hN), Option.bind_some]
            exact valid_j2 (by omega) hd hi hlt hl hkind (fun _ => ⟨⟨show (0 : Int) ≤ 1 by decide, show (1 : Int) ≤ 3 by decide, show 0 ≤ d1 by omega, show d1 ≤ m by omega, show 0 ≤ d3 by omega, show d3 ≤ 1125899906842624 by omega, .inl (show (1 : Int) ≠ 0 by decide), .inr hN, .inl rfl⟩, fun _ _ => ⟨rfl, rfl⟩, fun h => absurd h c3⟩) (fun h => absurd rfl h) next
          · rw [if_neg (by simpa using hN), Option.bind_some]
            exact valid_j2 (by omega) hd hi hlt hl hkind (fun h => absurd h (by decide)) (fun _ => ⟨rfl, rfl, rfl, rfl⟩) next
    · rw [if_neg k0]
      by_cases k1 : kind = 1
      · rw [if_pos k1]
        unfold P.drive_Halt.f
        by_cases c1 : d0 = 1
        · rw [if_pos c1, Option.bind_some]
          exact valid_j2 (by omega) hd hi hlt hl hkind (fun _ => ⟨⟨show (0 : Int) ≤ 2 by decide, show (2 : Int) ≤ 3 by decide, show 0 ≤ d1 by omega, show d1 ≤ m by omega, show 0 ≤ d3 by omega, show d3 ≤ 1125899906842624 by omega, .inl (show (2 : Int) ≠ 0 by decide), .inl (show (2 : Int) ≠ 1 by decide), .inr rfl⟩, fun _ _ => ⟨rfl, rfl⟩, fun h => by omega⟩) (fun h => absurd rfl h) next
        · rw [if_neg c1, Option.bind_some]
          exact valid_j2 (by omega) hd hi hlt hl hkind (fun _ => ⟨hd, fun _ _ => ⟨rfl, rfl⟩, fun h => .inr h⟩) (fun h => absurd rfl h) next
      · rw [if_neg k1]
        by_cases k2 : kind = 2
        · rw [if_pos k2]
          unfold P.drive_Emergency.f
          rw [Option.bind_some]
          exact valid_j2 (by omega) hd hi hlt hl hkind (fun _ => ⟨⟨show (0 : Int) ≤ 3 by decide, show (3 : Int) ≤ 3 by decide, show 0 ≤ d1 by omega, show d1 ≤ m by omega, show 0 ≤ d3 by omega, show d3 ≤ 1125899906842624 by omega, .inl (show (3 : Int) ≠ 0 by decide), .inl (show (3 : Int) ≠ 1 by decide), .inr rfl⟩, fun _ _ => ⟨rfl, rfl⟩, fun _ => .inr rfl⟩) (fun h => absurd rfl h) next
        · rw [if_neg k2]
          by_cases k3 : kind = 3
          · rw [if_pos k3]
            unfold P.drive_Reset.f
            by_cases c3 : d0 = 3
            · rw [if_pos c3]
              by_cases c0 : d1 = 0
              · rw [if_pos c0, Option.bind_some]
                exact valid_j2 (by omega) hd hi hlt hl hkind (fun _ => ⟨⟨show (0 : Int) ≤ 0 by decide, show (0 : Int) ≤ 3 by decide, show 0 ≤ d1 by omega, show d1 ≤ m by omega, show 0 ≤ d3 by omega, show d3 ≤ 1125899906842624 by omega, .inr c0, .inl (show (0 : Int) ≠ 1 by decide), .inr (show d2 = 0 by omega)⟩, fun _ _ => ⟨rfl, rfl⟩, fun _ => .inl k3⟩) (fun h => absurd rfl h) next
              · rw [if_neg c0, Option.bind_some]
                exact valid_j2 (by omega) hd hi hlt hl hkind (fun h => absurd h (by decide)) (fun _ => ⟨rfl, rfl, rfl, rfl⟩) next
            · rw [if_neg c3, Option.bind_some]
              exact valid_j2 (by omega) hd hi hlt hl hkind (fun h => absurd h (by decide)) (fun _ => ⟨rfl, rfl, rfl, rfl⟩) next
          · rw [if_neg k3]
            have hs := step_at hm hd (mn N 100) (k := k + 1) (by omega)
            dsimp only at hs
            rw [hs, Option.bind_some]
            have hv := VD.secs hm (min (max (mn N 100) 0) 3600).toNat hd
            have h3 := emer_stays u dn s (min (max (mn N 100) 0) 3600).toNat d0 d1 d2 d3
            generalize secs u dn s (min (max (mn N 100) 0) 3600).toNat (d0, d1, d2, d3) = x at hv h3 ⊢
            obtain ⟨x0, x1, x2, x3⟩ := x
            exact valid_j2 (by omega) hd hi hlt hl hkind (fun _ => ⟨hv, fun a b => by omega, fun h => .inr (h3 h)⟩) (fun h => absurd rfl h) next
theorem DriveValid (a0_0 : Int) (a0_1 : Int) (a0_2 : Int) (a0_3 : Int) (a1_0 : Int) (a1_1 : Int) (a1_2 : Int) (a1_3 : Int) (l2 : List (P.S42)) (w0_0 : I64 a0_0) (w0_1 : I64 a0_1) (w0_2 : I64 a0_2) (w0_3 : I64 a0_3) (w1_0 : I64 a1_0) (w1_1 : I64 a1_1) (w1_2 : I64 a1_2) (w1_3 : I64 a1_3) (w2 : ∀ x ∈ l2, ok42 x) (y2 : l2.length ≤ 9223372036854775807) : ∃ k, P.skiarealaw14_DriveValid.f k a0_0 a0_1 a0_2 a0_3 a1_0 a1_1 a1_2 a1_3 l2 = some true := by
  obtain ⟨k, hk⟩ : ∃ k : Nat, k = 5000 := ⟨_, rfl⟩
  refine ⟨k + 2, ?_⟩
  unfold P.skiarealaw14_DriveValid.f
  rw [alive_at (by omega), Option.bind_some, if_pos rfl, both_at, Option.bind_some]
  by_cases h : VM a0_0 a0_1 a0_2 a0_3 ∧ VD a0_0 (a1_0, a1_1, a1_2, a1_3)
  · rw [if_pos (by simpa using h), P.skiarealaw14_DriveValid.j0]
    by_cases hl : (l2.length : Int) > 60
    · rw [decide_eq_true hl, if_pos rfl]
    · rw [decide_eq_false hl, if_neg (by decide)]
      exact valid_l0 h.1 l2 (by omega) l2.length (k + 1) 0 a1_0 a1_1 a1_2 a1_3 h.2 (by omega) (by omega) (by omega)
  · rw [if_neg (by simpa using h), P.skiarealaw14_DriveValid.j0, if_pos rfl]
end Go.Proofs.Ytaleljinebkdkaa.Pure
