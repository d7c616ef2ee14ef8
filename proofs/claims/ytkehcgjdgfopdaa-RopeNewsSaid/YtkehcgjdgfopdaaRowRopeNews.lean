/- Of the law RopeNews: whatever the arguments, the call returns true, and they read as before. No condition. -/
import Derived.Test.YtkehcgjdgfopdaaRows
import Derived.Test.YtkehcgjdgfopdaaPx15
import Derived.Test.YtkehcgjdgfopdaaOpen
import Derived.Test.YtkehcgjdgfopdaaPureRopeNews
import Derived.WalkKit
import Derived.ProofKit
import Derived.OpenShut
import Derived.ShutString
import Derived.ChangeOld
import Derived.Below
import Derived.SizedLaws
namespace Go.Proofs.Ytkehcgjdgfopdaa.ropeNews
open Go.ChangeShapes Go.WideShapes Go.ChangeAt Go.RowKit Go.Proofs.YtkehcgjdgfopdaaW.PrintWords Go.Proofs.Ytkehcgjdgfopdaa
open Go.ChangeMaps (open_string shut_string)
set_option linter.unusedVariables false
theorem own : ownKnob Try.prog.godebug = none := by kernel_rfl
theorem laidOut : laidOutB Try.prog = true := by kernel_rfl
set_option maxRecDepth 100000 in
theorem open23 {H : Type} {enc : TypeId × Value → H} {w : World} {base : Nat} {v : Value} {dd : DataW H} {p : List MemPlace} (hv : Value.okWide Try.prog w .any base 23 v) (h : DataW.Trod enc Try.prog w 0 (fun _ => true) true 23 v dd p) :
    ∃ (x0 : Int) (x1 : Int) (x2 : Int) (x3 : Int) (x4 : Int) (x5 : Int) (x6 : Int) (x7 : Int), v = .agg #[.int .i64 x0, .int .i64 x1, .int .i64 x2, .int .i64 x3, .int .i64 x4, .int .i64 x5, .int .i64 x6, .int .i64 x7] ∧ I64 x0 ∧ I64 x1 ∧ I64 x2 ∧ I64 x3 ∧ I64 x4 ∧ I64 x5 ∧ I64 x6 ∧ I64 x7 := by
  obtain ⟨cs, rfl, _⟩ := okWide_struct Try.underlying23 hv
  obtain ⟨fuel, hf⟩ := h
  obtain ⟨a, hK, hok⟩ := (Rd.struct (P := Try.prog) (t := 23) Try.underlying23 (by kernel_rfl) (RdF.cons (Rd.int (P := Try.prog) (t := 3) Try.underlying3) (by rfl) (by kernel_rfl) (by rfl) (RdF.cons (Rd.int (P := Try.prog) (t := 3) Try.underlying3) (by rfl) (by kernel_rfl) (by rfl) (RdF.cons (Rd.int (P := Try.prog) (t := 3) Try.underlying3) (by rfl) (by kernel_rfl) (by rfl) (RdF.cons (Rd.int (P := Try.prog) (t := 3) Try.underlying3) (by rfl) (by kernel_rfl) (by rfl) (RdF.cons (Rd.int (P := Try.prog) (t := 3) Try.underlying3) (by rfl) (by kernel_rfl) (by rfl) (RdF.cons (Rd.int (P := Try.prog) (t := 3) Try.underlying3) (by rfl) (by kernel_rfl) (by rfl) (RdF.cons (Rd.int (P := Try.prog) (t := 3) Try.underlying3) (by rfl) (by kernel_rfl) (by rfl) (RdF.one (Rd.int (P := Try.prog) (t := 3) Try.underlying3) (by rfl) (by kernel_rfl))))))))) (f := id) (g := id) (fun _ => rfl)).rd hf
  obtain ⟨x0, ⟨x1, ⟨x2, ⟨x3, ⟨x4, ⟨x5, ⟨x6, x7⟩⟩⟩⟩⟩⟩⟩ := a
  obtain ⟨_, _, hcs, e0, ⟨_, _, rfl, e1, ⟨_, _, rfl, e2, ⟨_, _, rfl, e3, ⟨_, _, rfl, e4, ⟨_, _, rfl, e5, ⟨_, _, rfl, e6, e7⟩⟩⟩⟩⟩⟩⟩ := hK
  obtain ⟨w0, ⟨w1, ⟨w2, ⟨w3, ⟨w4, ⟨w5, ⟨w6, w7⟩⟩⟩⟩⟩⟩⟩ := hok
  subst e0
  subst e1
  subst e2
  subst e3
  subst e4
  subst e5
  subst e6
  subst e7
  have hcs' : cs = #[.int .i64 x0, .int .i64 x1, .int .i64 x2, .int .i64 x3, .int .i64 x4, .int .i64 x5, .int .i64 x6, .int .i64 x7] := by
    apply Array.toList_inj.mp
    exact hcs
  exact ⟨x0, x1, x2, x3, x4, x5, x6, x7, by rw [hcs'], w0, w1, w2, w3, w4, w5, w6, w7⟩
set_option maxRecDepth 100000 in
theorem lifted (os : Os) (started : os.Started) (H : Type) (enc : TypeId × Value → H) :
    ReturnsInHanded {} Try.checked os 3 .any (Rows.ropeNewsSpec.pre6 enc Try.prog Try.f3 Rows.ropeNewsRow.domain false) (Rows.ropeNewsSpec.post enc Try.prog Try.f3 false true false false) := by
  refine returnsInHanded_of_change_sized (C := Try.checked) own started (by kernel_rfl) Try.func3
    (ChangeSpec.witness6 (enc := enc) (C := Try.checked) false ⟨#[], #[.agg #[.int .i64 0, .int .i64 0, .int .i64 0, .int .i64 0, .int .i64 0, .int .i64 0, .int .i64 0, .int .i64 0]], []⟩ 12 (by kernel_rfl) (by kernel_rfl) (by kernel_rfl) (by kernel_rfl)) ?_
  intro W base args ds gs before hval0 hW hcnd hsz0 _
  have hval : ∀ (j : Nat) t v, Try.f3.params[j]? = some t → args[j]? = some v → Value.okWide Try.prog W .any base t v := hval0
  have hW' := hW
  obtain ⟨p, q, hA0, hV, rfl, hfz, hnd⟩ := hW
  have hA : DataW.TrodAll enc Try.prog W 0 (fun _ => true) true Try.f3.params.toList args.toList ds p := hA0
  rw [Try.params3] at hA hval
  obtain ⟨v0, vs0, d0, ds0, p0, q0, hargs, rfl, rfl, h0, r0⟩ := trodAll_cons hA
  obtain ⟨rfl, rfl, rfl⟩ := trodAll_nil r0
  obtain rfl : args = #[v0] := by cases args; simp_all
  obtain ⟨rfl, rfl⟩ := trodVars_none hV
  have k0 := h0
  have lt0 : ∀ x ∈ p0, x.block < W.heap.size := by obtain ⟨m, hm⟩ := k0; exact DataW.trod_lt m _ _ _ hm
  obtain ⟨a0_0, a0_1, a0_2, a0_3, a0_4, a0_5, a0_6, a0_7, rfl, w0_0, w0_1, w0_2, w0_3, w0_4, w0_5, w0_6, w0_7⟩ := open23 (hval 0 23 v0 rfl rfl) h0
  clear hA0 hval0 hsz0
  obtain ⟨k, hp⟩ := Pure.RopeNews a0_0 a0_1 a0_2 a0_3 a0_4 a0_5 a0_6 a0_7 w0_0 w0_1 w0_2 w0_3 w0_4 w0_5 w0_6 w0_7
  refine (P.skiarealaw17_RopeNews.calls k a0_0 a0_1 a0_2 a0_3 a0_4 a0_5 a0_6 a0_7 true W  hp).mono fun e W' ⟨he, bel0⟩ => ?_
  have bel : Below W.heap.size W W' := bel0
  subst he
  exact ⟨_, rfl, _, _, _, [], _, [], hW', trodAll_mk1 (shut_bool Try.underlying4 _), (trodAll_cons_mk (Below.trod laidOut (by kernel_rfl) (of_decide_eq_true (by kernel_rfl)) k0 bel lt0) trodAll_mk0), rfl, bel.frame _, fun h => by cases h⟩
theorem over : Rows.ropeNewsRow.holds Try.pinned (OpenSpec.ofChange Rows.ropeNewsSpec) :=
  OpenClaim.holds_of_wide 3 Try.f3 rfl rfl rfl rfl rfl rfl rfl ⟨rfl, rfl, rfl, rfl, rfl⟩ rfl rfl rfl rfl rfl (by kernel_rfl) Try.func3 (by kernel_rfl)
    (of_decide_eq_true (by kernel_rfl)) (by unfold Func.isWrapper; first | (rw [if_pos (by decide +kernel)]; kernel_rfl) | (rw [if_neg (by decide +kernel)]; exact ⟨rfl, rfl⟩))
    (fun os started H enc _ => lifted os started H enc)
theorem proved : Rows.RopeNewsSaid := over
#print axioms proved
end Go.Proofs.Ytkehcgjdgfopdaa.ropeNews
namespace Go.Proofs.Ytkehcgjdgfopdaa
/-- The row, under a short name, for the claim. -/
theorem ropeNews_holds : Rows.RopeNewsSaid := ropeNews.proved
end Go.Proofs.Ytkehcgjdgfopdaa
