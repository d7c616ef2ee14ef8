/- Of the law ChainInterrupts: whatever the arguments, the call returns true, and they read as before. No condition. -/
import Derived.Test.YteepdedbldnccaaRows
import Derived.Test.YteepdedbldnccaaPx41
import Derived.Test.YteepdedbldnccaaOpen
import Derived.Test.YteepdedbldnccaaPureChainInterrupts
import Derived.WalkKit
import Derived.ProofKit
import Derived.OpenShut
import Derived.ShutString
import Derived.ChangeOld
import Derived.Below
import Derived.SizedLaws
namespace Go.Proofs.Yteepdedbldnccaa.chainInterrupts
open Go.ChangeShapes Go.WideShapes Go.ChangeAt Go.RowKit Go.Proofs.YteepdedbldnccaaW.PrintWords Go.Proofs.Yteepdedbldnccaa
open Go.ChangeMaps (open_string shut_string)
set_option linter.unusedVariables false
theorem own : ownKnob Try.prog.godebug = none := by kernel_rfl
theorem laidOut : laidOutB Try.prog = true := by kernel_rfl
open Go.Proofs.Yteepdedbldnccaa.Pure
theorem rdS48 : Rd Try.prog 48 P.k48 ok48 :=
  ⟨fun h => by
    obtain ⟨a, hK, hok⟩ := (Rd.struct (P := Try.prog) (t := 48) Try.underlying48 (by kernel_rfl) (RdF.cons (Rd.int (P := Try.prog) (t := 3) Try.underlying3) (by rfl) (by kernel_rfl) (by rfl) (RdF.cons (Rd.bool (P := Try.prog) (t := 4) Try.underlying4) (by rfl) (by kernel_rfl) (by rfl) (RdF.cons (Rd.bool (P := Try.prog) (t := 4) Try.underlying4) (by rfl) (by kernel_rfl) (by rfl) (RdF.cons (Rd.bool (P := Try.prog) (t := 4) Try.underlying4) (by rfl) (by kernel_rfl) (by rfl) (RdF.one (Rd.int (P := Try.prog) (t := 3) Try.underlying3) (by rfl) (by kernel_rfl)))))) (f := fun x : P.S48 => (x.f0, x.f1, x.f2, x.f3, x.f4)) (g := fun p => ⟨p.1, p.2.1, p.2.2.1, p.2.2.2.1, p.2.2.2.2⟩) (fun _ => rfl)).rd h
    exact ⟨a, hK, hok⟩⟩
theorem rdS45 : Rd Try.prog 45 P.k45 ok45 :=
  ⟨fun h => by
    obtain ⟨a, hK, hok⟩ := (Rd.struct (P := Try.prog) (t := 45) Try.underlying45 (by kernel_rfl) (RdF.cons (Rd.int (P := Try.prog) (t := 3) Try.underlying3) (by rfl) (by kernel_rfl) (by rfl) (RdF.cons (Rd.int (P := Try.prog) (t := 3) Try.underlying3) (by rfl) (by kernel_rfl) (by rfl) (RdF.cons (Rd.int (P := Try.prog) (t := 3) Try.underlying3) (by rfl) (by kernel_rfl) (by rfl) (RdF.one (Rd.int (P := Try.prog) (t := 3) Try.underlying3) (by rfl) (by kernel_rfl))))) (f := fun x : P.S45 => (x.f0, x.f1, x.f2, x.f3)) (g := fun p => ⟨p.1, p.2.1, p.2.2.1, p.2.2.2⟩) (fun _ => rfl)).rd h
    exact ⟨a, hK, hok⟩⟩
set_option maxRecDepth 100000 in
theorem open24 {H : Type} {enc : TypeId × Value → H} {w : World} {base : Nat} {v : Value} {dd : DataW H} {p : List MemPlace} (hv : Value.okWide Try.prog w .any base 24 v) (h : DataW.Trod enc Try.prog w 0 (fun _ => true) true 24 v dd p) :
    ∃ (A0 : Option Addr) (c0 : Nat) (x0 : List (P.S48)) (x1 : Int), v = .agg #[.slice A0 x0.length c0, .int .i64 x1] ∧ Kd.C P.k48 w A0 x0.length x0 ∧ x0.length ≤ c0 ∧ (∀ x ∈ x0, ok48 x) ∧ x0.length ≤ 9223372036854775807 ∧ I64 x1 := by
  obtain ⟨cs, rfl, _⟩ := okWide_struct Try.underlying24 hv
  obtain ⟨fuel, hf⟩ := h
  obtain ⟨a, hK, hok⟩ := (Rd.struct (P := Try.prog) (t := 24) Try.underlying24 (by kernel_rfl) (RdF.cons (Rd.slice (P := Try.prog) (t := 22) Try.underlying22 (by kernel_rfl) rdS48) (by rfl) (by kernel_rfl) (by rfl) (RdF.one (Rd.int (P := Try.prog) (t := 3) Try.underlying3) (by rfl) (by kernel_rfl))) (f := id) (g := id) (fun _ => rfl)).rd hf
  obtain ⟨x0, x1⟩ := a
  obtain ⟨_, _, hcs, ⟨A0, c0, rfl, l0, g0⟩, e1⟩ := hK
  obtain ⟨w0, w1⟩ := hok
  subst e1
  have hcs' : cs = #[.slice A0 x0.length c0, .int .i64 x1] := by
    apply Array.toList_inj.mp
    exact hcs
  exact ⟨A0, c0, x0, x1, by rw [hcs'], g0, l0, w0, g0.2.1, w1⟩
set_option maxRecDepth 100000 in
theorem lifted (os : Os) (started : os.Started) (H : Type) (enc : TypeId × Value → H) :
    ReturnsInHanded {} Try.checked os 10 .any (Rows.chainInterruptsSpec.pre6 enc Try.prog Try.f10 Rows.chainInterruptsRow.domain false) (Rows.chainInterruptsSpec.post enc Try.prog Try.f10 false true false false) := by
  refine returnsInHanded_of_change_sized (C := Try.checked) own started (by kernel_rfl) Try.func10
    (ChangeSpec.witness6 (enc := enc) (C := Try.checked) false ⟨#[], #[.agg #[.slice none 0 0, .int .i64 0], .int .i64 0, .slice none 0 0, .int .i64 0], []⟩ 12 (by kernel_rfl) (by kernel_rfl) (by kernel_rfl) (by kernel_rfl)) ?_
  intro W base args ds gs before hval0 hW hcnd hsz0 _
  have hval : ∀ (j : Nat) t v, Try.f10.params[j]? = some t → args[j]? = some v → Value.okWide Try.prog W .any base t v := hval0
  have hW' := hW
  obtain ⟨p, q, hA0, hV, rfl, hfz, hnd⟩ := hW
  have hA : DataW.TrodAll enc Try.prog W 0 (fun _ => true) true Try.f10.params.toList args.toList ds p := hA0
  rw [Try.params10] at hA hval
  obtain ⟨v0, vs0, d0, ds0, p0, q0, hargs, rfl, rfl, h0, r0⟩ := trodAll_cons hA
  obtain ⟨v1, vs1, d1, ds1, p1, q1, rfl, rfl, rfl, h1, r1⟩ := trodAll_cons r0
  obtain ⟨v2, vs2, d2, ds2, p2, q2, rfl, rfl, rfl, h2, r2⟩ := trodAll_cons r1
  obtain ⟨v3, vs3, d3, ds3, p3, q3, rfl, rfl, rfl, h3, r3⟩ := trodAll_cons r2
  obtain ⟨rfl, rfl, rfl⟩ := trodAll_nil r3
  obtain rfl : args = #[v0, v1, v2, v3] := by cases args; simp_all
  obtain ⟨rfl, rfl⟩ := trodVars_none hV
  have k0 := h0
  have lt0 : ∀ x ∈ p0, x.block < W.heap.size := by obtain ⟨m, hm⟩ := k0; exact DataW.trod_lt m _ _ _ hm
  obtain ⟨A0_0, c0_0, l0_0, a0_1, rfl, g0_0, lc0_0, w0_0, y0_0, w0_1⟩ := open24 (hval 0 24 v0 rfl rfl) h0
  obtain ⟨a1, rfl, rfl, rfl, w1⟩ := open_int Try.underlying3 (hval 1 3 v1 rfl rfl) h1
  have k2 := h2
  have lt2 : ∀ x ∈ p2, x.block < W.heap.size := by obtain ⟨m, hm⟩ := k2; exact DataW.trod_lt m _ _ _ hm
  obtain ⟨a2_, len2, cap2, rfl⟩ := okWide_slice Try.underlying41 (hval 2 41 v2 rfl rfl)
  obtain ⟨A2, c2, l2, hcs2, g2, lc2, w2, y2⟩ : ∃ (A : Option Addr) (c : Nat) (l : List (P.S45)), Value.slice a2_ len2 cap2 = .slice A l.length c ∧ Kd.C P.k45 W A l.length l ∧ l.length ≤ c ∧ (∀ x ∈ l, ok45 x) ∧ l.length ≤ 9223372036854775807 := by
    obtain ⟨fuel, hf⟩ := h2
    obtain ⟨l, ⟨A, c, he, hl, hC⟩, hok⟩ := (Rd.slice (P := Try.prog) (t := 41) Try.underlying41 (by kernel_rfl) rdS45).rd hf
    exact ⟨A, c, l, by simpa [Value.cells] using he, hC, hl, hok, hC.2.1⟩
  obtain ⟨rfl, rfl, rfl⟩ : a2_ = A2 ∧ len2 = l2.length ∧ cap2 = c2 := by simpa using hcs2
  obtain ⟨a3, rfl, rfl, rfl, w3⟩ := open_int Try.underlying3 (hval 3 3 v3 rfl rfl) h3
  clear hA0 hval0 hsz0
  obtain ⟨k, hp⟩ := Pure.ChainInterrupts l0_0 a0_1 a1 l2 a3 w0_0 y0_0 w0_1 w1 w2 y2 w3
  refine (P.skiarealaw16_ChainInterrupts.calls k A0_0 c0_0 l0_0 a0_1 a1 a2_ cap2 l2 a3 true W g0_0 lc0_0 g2 lc2 hp).mono fun e W' ⟨he, bel0⟩ => ?_
  have bel : Below W.heap.size W W' := bel0
  subst he
  exact ⟨_, rfl, _, _, _, [], _, [], hW', trodAll_mk1 (shut_bool Try.underlying4 _), (trodAll_cons_mk (Below.trod laidOut (by kernel_rfl) (of_decide_eq_true (by kernel_rfl)) k0 bel lt0) (trodAll_cons_mk (shut_int Try.underlying3 w1) (trodAll_cons_mk (Below.trod laidOut (by kernel_rfl) (of_decide_eq_true (by kernel_rfl)) k2 bel lt2) (trodAll_cons_mk (shut_int Try.underlying3 w3) trodAll_mk0)))), rfl, bel.frame _, fun h => by cases h⟩
theorem over : Rows.chainInterruptsRow.holds Try.pinned (OpenSpec.ofChange Rows.chainInterruptsSpec) :=
  OpenClaim.holds_of_wide 10 Try.f10 rfl rfl rfl rfl rfl rfl rfl ⟨rfl, rfl, rfl, rfl, rfl⟩ rfl rfl rfl rfl rfl (by kernel_rfl) Try.func10 (by kernel_rfl)
    (of_decide_eq_true (by kernel_rfl)) (by unfold Func.isWrapper; first | (rw [if_pos (by decide +kernel)]; kernel_rfl) | (rw [if_neg (by decide +kernel)]; exact ⟨rfl, rfl⟩))
    (fun os started H enc _ => lifted os started H enc)
theorem proved : Rows.ChainInterruptsSaid := over
#print axioms proved
end Go.Proofs.Yteepdedbldnccaa.chainInterrupts
namespace Go.Proofs.Yteepdedbldnccaa
/-- The row, under a short name, for the claim. -/
theorem chainInterrupts_holds : Rows.ChainInterruptsSaid := chainInterrupts.proved
end Go.Proofs.Yteepdedbldnccaa
