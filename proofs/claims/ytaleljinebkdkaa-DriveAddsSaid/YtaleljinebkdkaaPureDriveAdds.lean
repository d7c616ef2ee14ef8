/- The plain law of DriveAdds: the printed function answers true for all numbers. -/
import Derived.Test.YtaleljinebkdkaaDrive
import Derived.Test.YtaleljinebkdkaaPx31
namespace Go.Proofs.Ytaleljinebkdkaa.Pure
set_option linter.unusedVariables false
set_option linter.unusedSimpArgs false
open Go.RowKit Go.Proofs.YtaleljinebkdkaaW.PrintWords Go.Proofs.YtaleljinebkdkaaW.PrintLast Go.Proofs.YtaleljinebkdkaaW.PrintMore Go.Proofs.Ytaleljinebkdkaa
theorem DriveAdds (a0_0 : Int) (a0_1 : Int) (a0_2 : Int) (a0_3 : Int) (a1_0 : Int) (a1_1 : Int) (a1_2 : Int) (a1_3 : Int) (a2_0 : Int) (a2_1 : Int) (w0_0 : I64 a0_0) (w0_1 : I64 a0_1) (w0_2 : I64 a0_2) (w0_3 : I64 a0_3) (w1_0 : I64 a1_0) (w1_1 : I64 a1_1) (w1_2 : I64 a1_2) (w1_3 : I64 a1_3) (w2_0 : I64 a2_0) (w2_1 : I64 a2_1) : ∃ k, P.skiarealaw14_DriveAdds.f k a0_0 a0_1 a0_2 a0_3 a1_0 a1_1 a1_2 a1_3 a2_0 a2_1 = some true := by
  obtain ⟨k, hk⟩ : ∃ k : Nat, k = 5000 := ⟨_, rfl⟩
  refine ⟨k + 2, ?_⟩
  unfold P.skiarealaw14_DriveAdds.f
  rw [alive_at (by omega), Option.bind_some, if_pos rfl, both_at, Option.bind_some]
  by_cases h : VM a0_0 a0_1 a0_2 a0_3 ∧ VD a0_0 (a1_0, a1_1, a1_2, a1_3)
  · rw [if_pos (by simpa using h)]
    obtain ⟨hm, hd⟩ := h
    have hs := fun n => step_at hm hd n (k := k + 2) (by omega)
    have hs' := fun n => step_at hm hd n (k := k + 1) (by omega)
    dsimp only at hs hs'
    rw [hs, hs, hs, Option.bind_some, Option.bind_some, mn_eq, mx_eq, mn_eq, mx_eq, show min (max (min (max a2_0 0) 3600) 0) 3600 = min (max a2_0 0) 3600 by omega, Option.bind_some]
    simp only [BEq.rfl, Bool.not_true, Bool.or_self]
    rw [if_neg (by decide), show secs a0_1 a0_2 a0_3 (min (max (0 : Int) 0) 3600).toNat (a1_0, a1_1, a1_2, a1_3) = (a1_0, a1_1, a1_2, a1_3) from rfl]
    simp only [BEq.rfl, Bool.not_true, Bool.or_self]
    rw [P.skiarealaw14_DriveAdds.j0, if_neg (by decide), wrap_at (by omega) (by omega)]
    by_cases hq : min (max a2_0 0) 3600 + min (max a2_1 0) 3600 > 3600
    · rw [if_pos hq]
    · rw [if_neg hq, hs', hs', Option.bind_some, show min (max (min (max a2_0 0) 3600) 0) 3600 = min (max a2_0 0) 3600 by omega]
      have hv := VD.secs hm (min (max a2_0 0) 3600).toNat hd
      have e : (min (max (min (max a2_0 0) 3600 + min (max a2_1 0) 3600) 0) 3600).toNat = (min (max a2_0 0) 3600).toNat + (min (max (min (max a2_1 0) 3600) 0) 3600).toNat := by omega
      rw [e, secs_add]
      generalize secs a0_1 a0_2 a0_3 (min (max a2_0 0) 3600).toNat (a1_0, a1_1, a1_2, a1_3) = x at hv ⊢
      obtain ⟨x0, x1, x2, x3⟩ := x
      have ht := step_at hm hv (min (max a2_1 0) 3600) (k := k + 1) (by omega)
      dsimp only at ht ⊢
      rw [ht, Option.bind_some, Option.bind_some]
      simp
  · rw [if_neg (by simpa using h)]
end Go.Proofs.Ytaleljinebkdkaa.Pure
