/- Of the law RopeRound: whatever the arguments, the call returns true, and they read as before. No condition. -/
import Derived.Test.YtkehcgjdgfopdaaRows
import Derived.Test.YtkehcgjdgfopdaaPx32
import Derived.Test.YtkehcgjdgfopdaaOpen
import Derived.Test.YtkehcgjdgfopdaaPureRopeRound
import Derived.WalkKit
import Derived.ProofKit
import Derived.OpenShut
import Derived.ShutString
import Derived.ChangeOld
import Derived.Below
import Derived.SizedLaws
namespace Go.Proofs.Ytkehcgjdgfopdaa.ropeRound
open Go.ChangeShapes Go.WideShapes Go.ChangeAt Go.RowKit Go.Proofs.YtkehcgjdgfopdaaW.PrintWords Go.Proofs.Ytkehcgjdgfopdaa
open Go.ChangeMaps (open_string shut_string)
set_option linter.unusedVariables false
theorem own : ownKnob Try.prog.godebug = none := by kernel_rfl
theorem laidOut : laidOutB Try.prog = true := by kernel_rfl
set_option maxRecDepth 100000 in
theorem open27 {H : Type} {enc : TypeId × Value → H} {w : World} {base : Nat} {v : Value} {dd : DataW H} {p : List MemPlace} (hv : Value.okWide Try.prog w .any base 27 v) (h : DataW.Trod enc Try.prog w 0 (fun _ => true) true 27 v dd p) :
    ∃ (x0 : Int) (x1 : Int) (x2 : Int) (A3 : Option Addr) (c3 : Nat) (x3 : List Int), v = .agg #[.int .i64 x0, .int .i64 x1, .int .i64 x2, .slice A3 x3.length c3] ∧ I64 x0 ∧ I64 x1 ∧ I64 x2 ∧ Kd.C (Kd.int .i64) w A3 x3.length x3 ∧ x3.length ≤ c3 ∧ (∀ x ∈ x3, I64 x) ∧ x3.length ≤ 9223372036854775807 := by
  obtain ⟨cs, rfl, _⟩ := okWide_struct Try.underlying27 hv
  obtain ⟨fuel, hf⟩ := h
  obtain ⟨a, hK, hok⟩ := (Rd.struct (P := Try.prog) (t := 27) Try.underlying27 (by kernel_rfl) (RdF.cons (Rd.int (P := Try.prog) (t := 3) Try.underlying3) (by rfl) (by kernel_rfl) (by rfl) (RdF.cons (Rd.int (P := Try.prog) (t := 3) Try.underlying3) (by rfl) (by kernel_rfl) (by rfl) (RdF.cons (Rd.int (P := Try.prog) (t := 3) Try.underlying3) (by rfl) (by kernel_rfl) (by rfl) (RdF.one (Rd.slice (P := Try.prog) (t := 25) Try.underlying25 (by kernel_rfl) (Rd.int (P := Try.prog) (t := 3) Try.underlying3)) (by rfl) (by kernel_rfl))))) (f := id) (g := id) (fun _ => rfl)).rd hf
  obtain ⟨x0, ⟨x1, ⟨x2, x3⟩⟩⟩ := a
  obtain ⟨_, _, hcs, e0, ⟨_, _, rfl, e1, ⟨_, _, rfl, e2, ⟨A3, c3, rfl, l3, g3⟩⟩⟩⟩ := hK
  obtain ⟨w0, ⟨w1, ⟨w2, w3⟩⟩⟩ := hok
  subst e0
  subst e1
  subst e2
  have hcs' : cs = #[.int .i64 x0, .int .i64 x1, .int .i64 x2, .slice A3 x3.length c3] := by
    apply Array.toList_inj.mp
    exact hcs
  exact ⟨x0, x1, x2, A3, c3, x3, by rw [hcs'], w0, w1, w2, g3, l3, w3, g3.2.1⟩
set_option maxRecDepth 100000 in
theorem lifted (os : Os) (started : os.Started) (H : Type) (enc : TypeId × Value → H) :
    ReturnsInHanded {} Try.checked os 9 .any (Rows.ropeRoundSpec.pre6 enc Try.prog Try.f9 Rows.ropeRoundRow.domain false) (Rows.ropeRoundSpec.post enc Try.prog Try.f9 false true false false) := by
  refine returnsInHanded_of_change_sized (C := Try.checked) own started (by kernel_rfl) Try.func9
    (ChangeSpec.witness6 (enc := enc) (C := Try.checked) false ⟨#[], #[.agg #[.int .i64 0, .int .i64 0, .int .i64 0, .slice none 0 0]], []⟩ 12 (by kernel_rfl) (by kernel_rfl) (by kernel_rfl) (by kernel_rfl)) ?_
  intro W base args ds gs before hval0 hW hcnd hsz0 _
  have hval : ∀ (j : Nat) t v, Try.f9.params[j]? = some t → args[j]? = some v → Value.okWide Try.prog W .any base t v := hval0
  have hW' := hW
  obtain ⟨p, q, hA0, hV, rfl, hfz, hnd⟩ := hW
  have hA : DataW.TrodAll enc Try.prog W 0 (fun _ => true) true Try.f9.params.toList args.toList ds p := hA0
  rw [Try.params9] at hA hval
  obtain ⟨v0, vs0, d0, ds0, p0, q0, hargs, rfl, rfl, h0, r0⟩ := trodAll_cons hA
  obtain ⟨rfl, rfl, rfl⟩ := trodAll_nil r0
  obtain rfl : args = #[v0] := by cases args; simp_all
  obtain ⟨rfl, rfl⟩ := trodVars_none hV
  have k0 := h0
  have lt0 : ∀ x ∈ p0, x.block < W.heap.size := by obtain ⟨m, hm⟩ := k0; exact DataW.trod_lt m _ _ _ hm
  obtain ⟨a0_0, a0_1, a0_2, A0_3, c0_3, l0_3, rfl, w0_0, w0_1, w0_2, g0_3, lc0_3, w0_3, y0_3⟩ := open27 (hval 0 27 v0 rfl rfl) h0
  clear hA0 hval0 hsz0
  obtain ⟨k, hp⟩ := Pure.RopeRound a0_0 a0_1 a0_2 l0_3 w0_0 w0_1 w0_2 w0_3 y0_3
  refine (P.skiarealaw17_RopeRound.calls k a0_0 a0_1 a0_2 (fun k_ => k_ < W.heap.size) A0_3 c0_3 l0_3 true W (Kd.V_mk lc0_3 (Kd.C_F (Kd.heap_int .i64) g0_3)) hp).mono fun e W' ⟨he, bel0⟩ => ?_
  have bel : Below W.heap.size W W' := bel0
  subst he
  exact ⟨_, rfl, _, _, _, [], _, [], hW', trodAll_mk1 (shut_bool Try.underlying4 _), (trodAll_cons_mk (Below.trod laidOut (by kernel_rfl) (of_decide_eq_true (by kernel_rfl)) k0 bel lt0) trodAll_mk0), rfl, bel.frame _, fun h => by cases h⟩
theorem over : Rows.ropeRoundRow.holds Try.pinned (OpenSpec.ofChange Rows.ropeRoundSpec) :=
  OpenClaim.holds_of_wide 9 Try.f9 rfl rfl rfl rfl rfl rfl rfl ⟨rfl, rfl, rfl, rfl, rfl⟩ rfl rfl rfl rfl rfl (by kernel_rfl) Try.func9 (by kernel_rfl)
    (of_decide_eq_true (by kernel_rfl)) (by unfold Func.isWrapper; first | (rw [if_pos (by decide +kernel)]; kernel_rfl) | (rw [if_neg (by decide +kernel)]; exact ⟨rfl, rfl⟩))
    (fun os started H enc _ => lifted os started H enc)
theorem proved : Rows.RopeRoundSaid := over
#print axioms proved
end Go.Proofs.Ytkehcgjdgfopdaa.ropeRound
namespace Go.Proofs.Ytkehcgjdgfopdaa
/-- The row, under a short name, for the claim. -/
theorem ropeRound_holds : Rows.RopeRoundSaid := ropeRound.proved
end Go.Proofs.Ytkehcgjdgfopdaa
