/- Of the law RopePeople: whatever the arguments, the call returns true, and they read as before. No condition. -/
import Derived.Test.YtkehcgjdgfopdaaRows
import Derived.Test.YtkehcgjdgfopdaaPx17
import Derived.Test.YtkehcgjdgfopdaaOpen
import Derived.Test.YtkehcgjdgfopdaaPureRopePeople
import Derived.WalkKit
import Derived.ProofKit
import Derived.OpenShut
import Derived.ShutString
import Derived.ChangeOld
import Derived.Below
import Derived.SizedLaws
namespace Go.Proofs.Ytkehcgjdgfopdaa.ropePeople
open Go.ChangeShapes Go.WideShapes Go.ChangeAt Go.RowKit Go.Proofs.YtkehcgjdgfopdaaW.PrintWords Go.Proofs.Ytkehcgjdgfopdaa
open Go.ChangeMaps (open_string shut_string)
set_option linter.unusedVariables false
theorem own : ownKnob Try.prog.godebug = none := by kernel_rfl
theorem laidOut : laidOutB Try.prog = true := by kernel_rfl
open Go.Proofs.Ytkehcgjdgfopdaa.Pure
theorem rdS49 : Rd Try.prog 49 P.k49 ok49 :=
  ⟨fun h => by
    obtain ⟨a, hK, hok⟩ := (Rd.struct (P := Try.prog) (t := 49) Try.underlying49 (by kernel_rfl) (RdF.cons (Rd.int (P := Try.prog) (t := 3) Try.underlying3) (by rfl) (by kernel_rfl) (by rfl) (RdF.cons (Rd.int (P := Try.prog) (t := 3) Try.underlying3) (by rfl) (by kernel_rfl) (by rfl) (RdF.one (Rd.int (P := Try.prog) (t := 3) Try.underlying3) (by rfl) (by kernel_rfl)))) (f := fun x : P.S49 => (x.f0, x.f1, x.f2)) (g := fun p => ⟨p.1, p.2.1, p.2.2⟩) (fun _ => rfl)).rd h
    exact ⟨a, hK, hok⟩⟩
set_option maxRecDepth 100000 in
theorem open27 {H : Type} {enc : TypeId × Value → H} {w : World} {base : Nat} {v : Value} {dd : DataW H} {p : List MemPlace} (hv : Value.okWide Try.prog w .any base 27 v) (h : DataW.Trod enc Try.prog w 0 (fun _ => true) true 27 v dd p) :
    ∃ (x0 : Int) (x1 : Int) (x2 : Int) (A3 : Option Addr) (c3 : Nat) (x3 : List Int), v = .agg #[.int .i64 x0, .int .i64 x1, .int .i64 x2, .slice A3 x3.length c3] ∧ I64 x0 ∧ I64 x1 ∧ I64 x2 ∧ Kd.C (Kd.int .i64) w A3 x3.length x3 ∧ x3.length ≤ c3 ∧ (∀ x ∈ x3, I64 x) ∧ x3.length ≤ 9223372036854775807 := by
  obtain ⟨cs, rfl, _⟩ := okWide_struct Try.underlying27 hv
  obtain ⟨fuel, hf⟩ := h
  obtain ⟨a, hK, hok⟩ := (Rd.struct (P := Try.prog) (t := 27) Try.underlying27 (by kernel_rfl) (RdF.cons (Rd.int (P := Try.prog) (t := 3) Try.underlying3) (by rfl) (by kernel_rfl) (by rfl) (RdF.cons (Rd.int (P := Try.prog) (t := 3) Try.underlying3) (by rfl) (by kernel_rfl) (by rfl) (RdF.cons (Rd.int (P := Try.prog) (t := 3) Try.underlying3) (by rfl) (by kernel_rfl) (by rfl) (RdF.one (Rd.slice (P := Try.prog) (t := 25) Try.underlying25 (by kernel_rfl) (Rd.int (P := Try.prog) (t := 3) Try.underlying3)) (by rfl) (by kernel_rfl))))) (f := id) (g := id) (fun _ => rfl)).rd hf
  obtain ⟨x0, ⟨x1, ⟨x2, x3⟩⟩⟩ := a
  obtain ⟨_, _, hcs, e0, ⟨_, _, rfl, e1, ⟨_, _, rfl, e2, ⟨A3, c3, rfl, l3, g3⟩⟩⟩⟩ := hK
  obtain ⟨w0, ⟨w1, ⟨w2, w3⟩⟩⟩ := hok
  subst e0
  subst e1
  subst e2
  have hcs' : cs = #[.int .i64 x0, .int .i64 x1, .int .i64 x2, .slice A3 x3.length c3] := by
    apply Array.toList_inj.mp
    exact hcs
  exact ⟨x0, x1, x2, A3, c3, x3, by rw [hcs'], w0, w1, w2, g3, l3, w3, g3.2.1⟩
set_option maxRecDepth 100000 in
theorem lifted (os : Os) (started : os.Started) (H : Type) (enc : TypeId × Value → H) :
    ReturnsInHanded {} Try.checked os 7 .any (Rows.ropePeopleSpec.pre6 enc Try.prog Try.f7 Rows.ropePeopleRow.domain false) (Rows.ropePeopleSpec.post enc Try.prog Try.f7 false true false false) := by
  refine returnsInHanded_of_change_sized (C := Try.checked) own started (by kernel_rfl) Try.func7
    (ChangeSpec.witness6 (enc := enc) (C := Try.checked) false ⟨#[], #[.agg #[.int .i64 0, .int .i64 0, .int .i64 0, .slice none 0 0], .slice none 0 0], []⟩ 12 (by kernel_rfl) (by kernel_rfl) (by kernel_rfl) (by kernel_rfl)) ?_
  intro W base args ds gs before hval0 hW hcnd hsz0 _
  have hval : ∀ (j : Nat) t v, Try.f7.params[j]? = some t → args[j]? = some v → Value.okWide Try.prog W .any base t v := hval0
  have hW' := hW
  obtain ⟨p, q, hA0, hV, rfl, hfz, hnd⟩ := hW
  have hA : DataW.TrodAll enc Try.prog W 0 (fun _ => true) true Try.f7.params.toList args.toList ds p := hA0
  rw [Try.params7] at hA hval
  obtain ⟨v0, vs0, d0, ds0, p0, q0, hargs, rfl, rfl, h0, r0⟩ := trodAll_cons hA
  obtain ⟨v1, vs1, d1, ds1, p1, q1, rfl, rfl, rfl, h1, r1⟩ := trodAll_cons r0
  obtain ⟨rfl, rfl, rfl⟩ := trodAll_nil r1
  obtain rfl : args = #[v0, v1] := by cases args; simp_all
  obtain ⟨rfl, rfl⟩ := trodVars_none hV
  have k0 := h0
  have lt0 : ∀ x ∈ p0, x.block < W.heap.size := by obtain ⟨m, hm⟩ := k0; exact DataW.trod_lt m _ _ _ hm
  obtain ⟨a0_0, a0_1, a0_2, A0_3, c0_3, l0_3, rfl, w0_0, w0_1, w0_2, g0_3, lc0_3, w0_3, y0_3⟩ := open27 (hval 0 27 v0 rfl rfl) h0
  have k1 := h1
  have lt1 : ∀ x ∈ p1, x.block < W.heap.size := by obtain ⟨m, hm⟩ := k1; exact DataW.trod_lt m _ _ _ hm
  obtain ⟨a1_, len1, cap1, rfl⟩ := okWide_slice Try.underlying47 (hval 1 47 v1 rfl rfl)
  obtain ⟨A1, c1, l1, hcs1, g1, lc1, w1, y1⟩ : ∃ (A : Option Addr) (c : Nat) (l : List (P.S49)), Value.slice a1_ len1 cap1 = .slice A l.length c ∧ Kd.C P.k49 W A l.length l ∧ l.length ≤ c ∧ (∀ x ∈ l, ok49 x) ∧ l.length ≤ 9223372036854775807 := by
    obtain ⟨fuel, hf⟩ := h1
    obtain ⟨l, ⟨A, c, he, hl, hC⟩, hok⟩ := (Rd.slice (P := Try.prog) (t := 47) Try.underlying47 (by kernel_rfl) rdS49).rd hf
    exact ⟨A, c, l, by simpa [Value.cells] using he, hC, hl, hok, hC.2.1⟩
  obtain ⟨rfl, rfl, rfl⟩ : a1_ = A1 ∧ len1 = l1.length ∧ cap1 = c1 := by simpa using hcs1
  clear hA0 hval0 hsz0
  obtain ⟨k, hp⟩ := Pure.RopePeople a0_0 a0_1 a0_2 l0_3 l1 w0_0 w0_1 w0_2 w0_3 y0_3 w1 y1
  refine (P.skiarealaw17_RopePeople.calls k a0_0 a0_1 a0_2 (fun k_ => k_ < W.heap.size) A0_3 c0_3 l0_3 a1_ cap1 l1 true W (Kd.V_mk lc0_3 (Kd.C_F (Kd.heap_int .i64) g0_3)) g1 lc1 hp).mono fun e W' ⟨he, bel0⟩ => ?_
  have bel : Below W.heap.size W W' := bel0
  subst he
  exact ⟨_, rfl, _, _, _, [], _, [], hW', trodAll_mk1 (shut_bool Try.underlying4 _), (trodAll_cons_mk (Below.trod laidOut (by kernel_rfl) (of_decide_eq_true (by kernel_rfl)) k0 bel lt0) (trodAll_cons_mk (Below.trod laidOut (by kernel_rfl) (of_decide_eq_true (by kernel_rfl)) k1 bel lt1) trodAll_mk0)), rfl, bel.frame _, fun h => by cases h⟩
theorem over : Rows.ropePeopleRow.holds Try.pinned (OpenSpec.ofChange Rows.ropePeopleSpec) :=
  OpenClaim.holds_of_wide 7 Try.f7 rfl rfl rfl rfl rfl rfl rfl ⟨rfl, rfl, rfl, rfl, rfl⟩ rfl rfl rfl rfl rfl (by kernel_rfl) Try.func7 (by kernel_rfl)
    (of_decide_eq_true (by kernel_rfl)) (by unfold Func.isWrapper; first | (rw [if_pos (by decide +kernel)]; kernel_rfl) | (rw [if_neg (by decide +kernel)]; exact ⟨rfl, rfl⟩))
    (fun os started H enc _ => lifted os started H enc)
theorem proved : Rows.RopePeopleSaid := over
#print axioms proved
end Go.Proofs.Ytkehcgjdgfopdaa.ropePeople
namespace Go.Proofs.Ytkehcgjdgfopdaa
/-- The row, under a short name, for the claim. -/
theorem ropePeople_holds : Rows.RopePeopleSaid := ropePeople.proved
end Go.Proofs.Ytkehcgjdgfopdaa
