-- Written by wip/tools/laws.py of this repo over the kit's printer, for this claim.
import Derived.Test.YtkehcgjdgfopdaaPx0
namespace Go.Proofs.Ytkehcgjdgfopdaa.P
open Go.RowKit Go.Proofs.YtkehcgjdgfopdaaW.PrintWords Go.Proofs.YtkehcgjdgfopdaaW.PrintLast Go.Proofs.YtkehcgjdgfopdaaW.PrintMore
attribute [local go_sem] max2_int min2_int max_two min_two max_three min_three max_four min_four   -- for this text's walks alone
set_option linter.unusedVariables false
set_option linter.unusedSimpArgs false

/-! ### slices_Clone_int_int: function 31 -/
def slices_Clone_int_int.f (l0 : List (Int)) : Option (List (Int)) := if l0.length < 17592186044416 then some l0 else none
set_option maxHeartbeats 2000000 in
set_option maxRecDepth 100000 in
theorem slices_Clone_int_int.calls (A0 : Option Addr) (c0 : Nat) (l0 : List (Int)) (r : List (Int)) (w : World) (hr0 : Kd.C (Kd.int .i64) w A0 l0.length l0) (hc0 : l0.length ≤ c0) (h : slices_Clone_int_int.f l0 = some r) :
    Calls Try.prog 31 #[.slice A0 l0.length c0] w fun e w' => ∃ v0_ : Value, e = .returned v0_ ∧ Kd.R (Kd.int .i64) 3 w' w.heap.size (fun _ => True) v0_ r ∧ Below w.heap.size w w' := by
  unfold slices_Clone_int_int.f at h
  by_cases hl : l0.length < 17592186044416
  · rw [if_pos hl] at h
    obtain rfl := Option.some.inj h
    clear h
    have q_ : ∀ (w : World) (a : Option Addr) (n c n' c' : Nat), (binOp .eql 25 (.slice a n c) (.slice none n' c')).run Try.prog w = .ok (.bool a.isNone) w := fun w a n c n' c' => Lib.run_eql_slice_nil w _ _ a n c n' c' Try.underlying25
    rcases A0 with _ | ad
    · obtain rfl : l0 = [] := by
        rcases l0 with _ | ⟨x, l⟩
        · rfl
        · obtain ⟨ad, he, _⟩ := hr0.2.2 (by simp)
          cases he
      clear hr0 hc0 hl
      go_enter Try.func31, Try.ntmps31
      go_wp2
      go_ret
      exact ⟨_, rfl, Kd.R_nil _ _ _ _ _, Below.refl _ _⟩
    · obtain ⟨i0, hi, hz0, hz1, hz2⟩ := info_parts info3
      obtain ⟨news, h1, h2, h3, h4⟩ := row_cells hr0
      have hn : l0.length ≤ maxLen := hr0.2.1
      have hM : Reps (fun x c => Kd.K (Kd.int .i64) w x c) (Kd.sz (Kd.int .i64)) l0 news := h4
      have h2a : Aside0 (∀ (j : Nat) (u : Value), news[j]? = some u → w.cell? (ad.add j) = some u) := ⟨h2⟩
      have h4a := Aside0.mk hM
      have h3a := Aside0.mk h3
      have h1a := Aside0.mk h1
      clear hr0 h2 h4 hM h3 h1 hc0
      generalize hN : l0.length = N at *
      have hNa := Aside0.mk hN
      clear hN
      have hla := Aside0.mk hl
      have hna := Aside0.mk hn
      clear hl hn
      go_enter Try.func31, Try.ntmps31
      go_wp2_with (at_builtin; refine wpList_append_own _ rfl _ _ 25 rfl w.heap.size 3 i0 _ 1 8 Try.underlying25 hi hz0 hz1 hz2 rfl (by decide) _ _ _ rfl (World.ownsRow_made w #[] 0 (Nat.le_refl _) (Nat.zero_le _) (by simp)) ad N c0 news rfl ?qc1 ?qc2 ?qc3 ?qc4 ?qc5 ?qc6 ?_)
      case qc1 => exact h1a.out
      case qc2 => exact fun j u hj => Lib.cell?_alloc_some _ (h2a.out j u hj)
      case qc3 => exact h3a.out
      case qc4 => rw [Nat.zero_add]; exact hna.out
      case qc5 => rw [Nat.zero_add]; have := hla.out; omega
      case qc6 => simp
      intro v' w1 hown hgrow hnil
      go_wp2
      go_ret
      refine ⟨v', rfl, ⟨fun _ _ => trivial, news, ?_, h4a.out.imp_ (fun p c hp => hp)⟩, ?_⟩
      · rw [hNa.out]; exact (show w1.ownsRow w.heap.size 3 1 v' N news by simpa using hown)
      · exact ((Below.refl _ w).alloc (Nat.le_refl _) _).grown hgrow (by simp) (by intro k hk; simp [Value.ownBlock] at hk; omega)
  · rw [if_neg hl] at h
    exact absurd h (by simp)

end Go.Proofs.Ytkehcgjdgfopdaa.P
