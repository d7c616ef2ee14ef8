-- Written by wip/tools/laws.py of this repo over the kit's printer, for this claim.
import Derived.Test.YteepdedbldnccaaPx0
import Derived.Test.YteepdedbldnccaaPx3
import Derived.Test.YteepdedbldnccaaPx16
import Derived.Test.YteepdedbldnccaaPx18
import Derived.Test.YteepdedbldnccaaPx36
import Derived.Test.YteepdedbldnccaaPx40
namespace Go.Proofs.Yteepdedbldnccaa.P
open Go.RowKit Go.Proofs.YteepdedbldnccaaW.PrintWords Go.Proofs.YteepdedbldnccaaW.PrintLast Go.Proofs.YteepdedbldnccaaW.PrintMore
attribute [local go_sem] max2_int min2_int max_two min_two max_three min_three max_four min_four   -- for this text's walks alone
set_option linter.unusedVariables false
set_option linter.unusedSimpArgs false

/-! ### skiarealaw16_ChainInterrupts: function 10 -/
mutual
def skiarealaw16_ChainInterrupts.j0 : Nat → Int → List (S45) → Int → Bool → List (S48) → Int → Option (Bool)
 | 0, _, _, _, _, _, _ => none
 | k + 1, x1, x2, x3, x27, x553000, x553001 => if x27 = true then (some true) else ((skiarealaw16_do.f k x553000 x553001 0 x1 0 0).bind fun bt555 => (if bt555.2.2 = true then (skiarealaw16_ChainInterrupts.l0 k x1 x2 x3 false false 0 bt555.1 bt555.2.1) else (some true)))
def skiarealaw16_ChainInterrupts.l0 : Nat → Int → List (S45) → Int → Bool → Bool → Int → List (S48) → Int → Option (Bool)
 | 0, _, _, _, _, _, _, _, _ => none
 | k + 1, x1, x2, x3, x11, x12, x13, x561000, x561001 => if x13 < (x561000.length : Int) then (if x12 = true then (skiarealaw16_ChainInterrupts.l0 k x1 x2 x3 x11 true (wrap64 (x13 + 1)) x561000 x561001) else (if 0 ≤ x13 then (if ((rd_T48 x561000 x13).f0) = x1 then (skiarealaw16_ChainInterrupts.l0 k x1 x2 x3 x11 (decide (x3 < ((rd_T48 x561000 x13).f4))) (wrap64 (x13 + 1)) x561000 x561001) else (skiarealaw16_ChainInterrupts.l0 k x1 x2 x3 x11 false (wrap64 (x13 + 1)) x561000 x561001)) else (none))) else (skiarealaw16_ChainInterrupts.l1 k x1 x2 x3 x11 x12 0 x561000 x561001)
def skiarealaw16_ChainInterrupts.l1 : Nat → Int → List (S45) → Int → Bool → Bool → Int → List (S48) → Int → Option (Bool)
 | 0, _, _, _, _, _, _, _, _ => none
 | k + 1, x1, x2, x3, x11, x12, x14, x561000, x561001 => if x14 < (x2.length : Int) then (if 0 ≤ x14 then ((skiarealaw16_do.f k x561000 x561001 ((rd_T45 x2 x14).f0) ((rd_T45 x2 x14).f1) ((rd_T45 x2 x14).f2) ((rd_T45 x2 x14).f3)).bind fun bt564 => (if bt564.2.2 = true then (skiarealaw16_ChainInterrupts.j3 k x1 x2 x3 x11 x12 x14 x561001 (((rd_T45 x2 x14).f1) != x1) bt564.1 bt564.2.1) else (skiarealaw16_ChainInterrupts.j3 k x1 x2 x3 x11 x12 x14 x561001 true bt564.1 bt564.2.1))) else (none)) else ((chain_Faults.f k x561000 x561001 x3).bind fun t574 => ((skiarealaw16_has.f k t574 x1).bind fun t577 => (if t577 = true then (some (!x11)) else (if x11 = true then (some true) else (some x12)))))
def skiarealaw16_ChainInterrupts.j3 : Nat → Int → List (S45) → Int → Bool → Bool → Int → Int → Bool → List (S48) → Int → Option (Bool)
 | 0, _, _, _, _, _, _, _, _, _, _ => none
 | k + 1, x1, x2, x3, x11, x12, x14, x15, x93, x561000, x561001 => if x93 = true then (skiarealaw16_ChainInterrupts.l1 k x1 x2 x3 x11 x12 (wrap64 (x14 + 1)) x561000 x561001) else (if 0 ≤ x14 then (if x14 < (x2.length : Int) then (if ((rd_T45 x2 x14).f0) = 0 then (skiarealaw16_ChainInterrupts.l1 k x1 x2 x3 false x12 (wrap64 (x14 + 1)) x561000 x561001) else (if ((rd_T45 x2 x14).f0) = 2 then (skiarealaw16_ChainInterrupts.l1 k x1 x2 x3 true x12 (wrap64 (x14 + 1)) x561000 x561001) else (if ((rd_T45 x2 x14).f0) = 4 then (if x15 = 0 then (none) else (if x15 = ((rd_T45 x2 x14).f2) then (if x12 = true then (skiarealaw16_ChainInterrupts.l1 k x1 x2 x3 x11 true (wrap64 (x14 + 1)) x561000 x561001) else (skiarealaw16_ChainInterrupts.l1 k x1 x2 x3 x11 (decide (x3 < ((rd_T45 x2 x14).f3))) (wrap64 (x14 + 1)) x561000 x561001)) else (none))) else (skiarealaw16_ChainInterrupts.l1 k x1 x2 x3 x11 x12 (wrap64 (x14 + 1)) x561000 x561001)))) else (none)) else (none))
end
def skiarealaw16_ChainInterrupts.f (k : Nat) (l0_0 : List (S48)) (a0_1 : Int) (a1 : Int) (l2 : List (S45)) (a3 : Int) : Option (Bool) := (skiarealaw16_alive.f k).bind fun t553 => (if t553 = true then ((chain_Right.f k l0_0 a0_1).bind fun t554 => (if t554 = 0 then (skiarealaw16_ChainInterrupts.j0 k a1 l2 a3 (decide ((l2.length : Int) > 30)) l0_0 a0_1) else (skiarealaw16_ChainInterrupts.j0 k a1 l2 a3 true l0_0 a0_1))) else (none))
theorem skiarealaw16_ChainInterrupts.mono_l : ∀ k, (∀ y0 y1 y2 y3 y4 y5, LeO (skiarealaw16_ChainInterrupts.j0 k y0 y1 y2 y3 y4 y5) (skiarealaw16_ChainInterrupts.j0 (k + 1) y0 y1 y2 y3 y4 y5)) ∧ (∀ y0 y1 y2 y3 y4 y5 y6 y7, LeO (skiarealaw16_ChainInterrupts.l0 k y0 y1 y2 y3 y4 y5 y6 y7) (skiarealaw16_ChainInterrupts.l0 (k + 1) y0 y1 y2 y3 y4 y5 y6 y7)) ∧ (∀ y0 y1 y2 y3 y4 y5 y6 y7, LeO (skiarealaw16_ChainInterrupts.l1 k y0 y1 y2 y3 y4 y5 y6 y7) (skiarealaw16_ChainInterrupts.l1 (k + 1) y0 y1 y2 y3 y4 y5 y6 y7)) ∧ (∀ y0 y1 y2 y3 y4 y5 y6 y7 y8 y9, LeO (skiarealaw16_ChainInterrupts.j3 k y0 y1 y2 y3 y4 y5 y6 y7 y8 y9) (skiarealaw16_ChainInterrupts.j3 (k + 1) y0 y1 y2 y3 y4 y5 y6 y7 y8 y9))
 | 0 => ⟨fun _ _ _ _ _ _ r h => by simp [skiarealaw16_ChainInterrupts.j0] at h, fun _ _ _ _ _ _ _ _ r h => by simp [skiarealaw16_ChainInterrupts.l0] at h, fun _ _ _ _ _ _ _ _ r h => by simp [skiarealaw16_ChainInterrupts.l1] at h, fun _ _ _ _ _ _ _ _ _ _ r h => by simp [skiarealaw16_ChainInterrupts.j3] at h⟩
 | k + 1 => by
  obtain ⟨ih0, ih1, ih2, ih3⟩ := skiarealaw16_ChainInterrupts.mono_l k
  refine ⟨?_, ?_, ?_, ?_⟩
  ·intro y0 y1 y2 y3 y4 y5
   unfold skiarealaw16_ChainInterrupts.j0
   repeat' first
   | (with_reducible exact ih0 _ _ _ _ _ _)
   | (with_reducible exact ih1 _ _ _ _ _ _ _ _)
   | (with_reducible exact ih2 _ _ _ _ _ _ _ _)
   | (with_reducible exact ih3 _ _ _ _ _ _ _ _ _ _)
   | (with_reducible exact chain_Faults.mono _ _ _ _)
   | (with_reducible exact chain_Right.mono _ _ _)
   | (with_reducible exact skiarealaw16_alive.mono _)
   | (with_reducible exact skiarealaw16_do.mono _ _ _ _ _ _ _)
   | (with_reducible exact skiarealaw16_has.mono _ _ _)
   | (with_reducible exact LeO.refl _)
   | (with_reducible exact LeO.none _)
   | (with_reducible refine LeO.ite ?_ ?_)
   | (with_reducible refine LeO.bind ?_ (fun _ => ?_))
   | exact ih0 _ _ _ _ _ _
   | exact ih1 _ _ _ _ _ _ _ _
   | exact ih2 _ _ _ _ _ _ _ _
   | exact ih3 _ _ _ _ _ _ _ _ _ _
   | exact chain_Faults.mono _ _ _ _
   | exact chain_Right.mono _ _ _
   | exact skiarealaw16_alive.mono _
   | exact skiarealaw16_do.mono _ _ _ _ _ _ _
   | exact skiarealaw16_has.mono _ _ _
   | exact LeO.none _
   | refine LeO.ite ?_ ?_
   | refine LeO.bind ?_ (fun _ => ?_)
  ·intro y0 y1 y2 y3 y4 y5 y6 y7
   unfold skiarealaw16_ChainInterrupts.l0
   repeat' first
   | (with_reducible exact ih0 _ _ _ _ _ _)
   | (with_reducible exact ih1 _ _ _ _ _ _ _ _)
   | (with_reducible exact ih2 _ _ _ _ _ _ _ _)
   | (with_reducible exact ih3 _ _ _ _ _ _ _ _ _ _)
   | (with_reducible exact chain_Faults.mono _ _ _ _)
   | (with_reducible exact chain_Right.mono _ _ _)
   | (with_reducible exact skiarealaw16_alive.mono _)
   | (with_reducible exact skiarealaw16_do.mono _ _ _ _ _ _ _)
   | (with_reducible exact skiarealaw16_has.mono _ _ _)
   | (with_reducible exact LeO.refl _)
   | (with_reducible exact LeO.none _)
   | (with_reducible refine LeO.ite ?_ ?_)
   | (with_reducible refine LeO.bind ?_ (fun _ => ?_))
   | exact ih0 _ _ _ _ _ _
   | exact ih1 _ _ _ _ _ _ _ _
   | exact ih2 _ _ _ _ _ _ _ _
   | exact ih3 _ _ _ _ _ _ _ _ _ _
   | exact chain_Faults.mono _ _ _ _
   | exact chain_Right.mono _ _ _
   | exact skiarealaw16_alive.mono _
   | exact skiarealaw16_do.mono _ _ _ _ _ _ _
   | exact skiarealaw16_has.mono _ _ _
   | exact LeO.none _
   | refine LeO.ite ?_ ?_
   | refine LeO.bind ?_ (fun _ => ?_)
  ·intro y0 y1 y2 y3 y4 y5 y6 y7
   unfold skiarealaw16_ChainInterrupts.l1
   repeat' first
   | (with_reducible exact ih0 _ _ _ _ _ _)
   | (with_reducible exact ih1 _ _ _ _ _ _ _ _)
   | (with_reducible exact ih2 _ _ _ _ _ _ _ _)
   | (with_reducible exact ih3 _ _ _ _ _ _ _ _ _ _)
   | (with_reducible exact chain_Faults.mono _ _ _ _)
   | (with_reducible exact chain_Right.mono _ _ _)
   | (with_reducible exact skiarealaw16_alive.mono _)
   | (with_reducible exact skiarealaw16_do.mono _ _ _ _ _ _ _)
   | (with_reducible exact skiarealaw16_has.mono _ _ _)
   | (with_reducible exact LeO.refl _)
   | (with_reducible exact LeO.none _)
   | (with_reducible refine LeO.ite ?_ ?_)
   | (with_reducible refine LeO.bind ?_ (fun _ => ?_))
   | exact ih0 _ _ _ _ _ _
   | exact ih1 _ _ _ _ _ _ _ _
   | exact ih2 _ _ _ _ _ _ _ _
   | exact ih3 _ _ _ _ _ _ _ _ _ _
   | exact chain_Faults.mono _ _ _ _
   | exact chain_Right.mono _ _ _
   | exact skiarealaw16_alive.mono _
   | exact skiarealaw16_do.mono _ _ _ _ _ _ _
   | exact skiarealaw16_has.mono _ _ _
   | exact LeO.none _
   | refine LeO.ite ?_ ?_
   | refine LeO.bind ?_ (fun _ => ?_)
  ·intro y0 y1 y2 y3 y4 y5 y6 y7 y8 y9
   unfold skiarealaw16_ChainInterrupts.j3
   repeat' first
   | (with_reducible exact ih0 _ _ _ _ _ _)
   | (with_reducible exact ih1 _ _ _ _ _ _ _ _)
   | (with_reducible exact ih2 _ _ _ _ _ _ _ _)
   | (with_reducible exact ih3 _ _ _ _ _ _ _ _ _ _)
   | (with_reducible exact chain_Faults.mono _ _ _ _)
   | (with_reducible exact chain_Right.mono _ _ _)
   | (with_reducible exact skiarealaw16_alive.mono _)
   | (with_reducible exact skiarealaw16_do.mono _ _ _ _ _ _ _)
   | (with_reducible exact skiarealaw16_has.mono _ _ _)
   | (with_reducible exact LeO.refl _)
   | (with_reducible exact LeO.none _)
   | (with_reducible refine LeO.ite ?_ ?_)
   | (with_reducible refine LeO.bind ?_ (fun _ => ?_))
   | exact ih0 _ _ _ _ _ _
   | exact ih1 _ _ _ _ _ _ _ _
   | exact ih2 _ _ _ _ _ _ _ _
   | exact ih3 _ _ _ _ _ _ _ _ _ _
   | exact chain_Faults.mono _ _ _ _
   | exact chain_Right.mono _ _ _
   | exact skiarealaw16_alive.mono _
   | exact skiarealaw16_do.mono _ _ _ _ _ _ _
   | exact skiarealaw16_has.mono _ _ _
   | exact LeO.none _
   | refine LeO.ite ?_ ?_
   | refine LeO.bind ?_ (fun _ => ?_)
theorem skiarealaw16_ChainInterrupts.mono : ∀ a0 a1 a2 a3 a4 k, LeO (skiarealaw16_ChainInterrupts.f k a0 a1 a2 a3 a4) (skiarealaw16_ChainInterrupts.f (k + 1) a0 a1 a2 a3 a4) := by
 intro a0 a1 a2 a3 a4 k
 obtain ⟨ih0, ih1, ih2, ih3⟩ := skiarealaw16_ChainInterrupts.mono_l k
 unfold skiarealaw16_ChainInterrupts.f
 repeat' first
   | (with_reducible exact ih0 _ _ _ _ _ _)
   | (with_reducible exact ih1 _ _ _ _ _ _ _ _)
   | (with_reducible exact ih2 _ _ _ _ _ _ _ _)
   | (with_reducible exact ih3 _ _ _ _ _ _ _ _ _ _)
   | (with_reducible exact chain_Faults.mono _ _ _ _)
   | (with_reducible exact chain_Right.mono _ _ _)
   | (with_reducible exact skiarealaw16_alive.mono _)
   | (with_reducible exact skiarealaw16_do.mono _ _ _ _ _ _ _)
   | (with_reducible exact skiarealaw16_has.mono _ _ _)
   | (with_reducible exact LeO.refl _)
   | (with_reducible exact LeO.none _)
   | (with_reducible refine LeO.ite ?_ ?_)
   | (with_reducible refine LeO.bind ?_ (fun _ => ?_))
   | exact ih0 _ _ _ _ _ _
   | exact ih1 _ _ _ _ _ _ _ _
   | exact ih2 _ _ _ _ _ _ _ _
   | exact ih3 _ _ _ _ _ _ _ _ _ _
   | exact chain_Faults.mono _ _ _ _
   | exact chain_Right.mono _ _ _
   | exact skiarealaw16_alive.mono _
   | exact skiarealaw16_do.mono _ _ _ _ _ _ _
   | exact skiarealaw16_has.mono _ _ _
   | exact LeO.none _
   | refine LeO.ite ?_ ?_
   | refine LeO.bind ?_ (fun _ => ?_)
def skiarealaw16_ChainInterrupts.T17 : Bool × List (List Nat × List Nat) := (true, [([], []), ([], []), ([], []), ([1, 2], [1, 2]), ([3], [3]), ([0, 4], [0, 4]), ([5], [5]), ([6], [6]), ([6], [6]), ([], []), ([9, 7, 5, 0, 1, 2, 3, 4, 5, 6, 7, 9], [7, 9]), ([8, 10, 0, 1, 2, 3, 4, 5, 6, 7, 8, 9, 10], [8])])
def skiarealaw16_ChainInterrupts.B17 : List Nat := [0, 0, 0, 6, 14, 31, 63, 127, 127, 0, 767, 2047]
theorem skiarealaw16_ChainInterrupts.tab17 : rtab .any (opsOf Try.f10 17) = skiarealaw16_ChainInterrupts.T17 := by kernel_rfl
theorem skiarealaw16_ChainInterrupts.bits17 : waitsOk skiarealaw16_ChainInterrupts.T17.2 skiarealaw16_ChainInterrupts.B17 = true := by kernel_rfl
set_option maxHeartbeats 8000000 in
set_option maxRecDepth 100000 in
theorem skiarealaw16_ChainInterrupts.calls (k : Nat) (A0_0 : Option Addr) (c0_0 : Nat) (l0_0 : List (S48)) (a0_1 : Int) (a1 : Int) (A2 : Option Addr) (c2 : Nat) (l2 : List (S45)) (a3 : Int) (r : Bool) (w : World) (hr0_0 : Kd.C k48 w A0_0 l0_0.length l0_0) (hc0_0 : l0_0.length ≤ c0_0) (hr2 : Kd.C k45 w A2 l2.length l2) (hc2 : l2.length ≤ c2) (h : skiarealaw16_ChainInterrupts.f k l0_0 a0_1 a1 l2 a3 = some r) :
  Calls Try.prog 10 #[.agg #[.slice A0_0 l0_0.length c0_0, .int .i64 a0_1], .int .i64 a1, .slice A2 l2.length c2, .int .i64 a3] w fun e w' => e = .returned (.bool r) ∧ Below w.heap.size w w' := by
 have hu24 := Try.underlying24
 have hu45 := Try.underlying45
 have HR0_0 := Aside0.mk hr0_0
 have HC0_0 := Aside0.mk hc0_0
 clear hr0_0 hc0_0
 have HR2 := Aside0.mk hr2
 have HC2 := Aside0.mk hc2
 clear hr2 hc2
 have HB := Aside0.mk (Below.refl w.heap.size w)
 have H : ((skiarealaw16_alive.f k).bind fun t553 => (if t553 = true then ((chain_Right.f k l0_0 a0_1).bind fun t554 => (if t554 = 0 then (skiarealaw16_ChainInterrupts.j0 k a1 l2 a3 (decide ((l2.length : Int) > 30)) l0_0 a0_1) else (skiarealaw16_ChainInterrupts.j0 k a1 l2 a3 true l0_0 a0_1))) else (none))) = some r := h
 clear h
 replace H := Option.bind_eq_some_iff.mp H
 obtain ⟨t553, A50, H⟩ := H
 replace H : (if t553 = true then ((chain_Right.f k l0_0 a0_1).bind fun t554 => (if t554 = 0 then (skiarealaw16_ChainInterrupts.j0 k a1 l2 a3 (decide ((l2.length : Int) > 30)) l0_0 a0_1) else (skiarealaw16_ChainInterrupts.j0 k a1 l2 a3 true l0_0 a0_1))) else (none)) = some r := H
 have A5 := Aside0.mk A50
 clear A50
 by_cases c6 : t553 = true
 ·subst c6
  have H1 : ((chain_Right.f k l0_0 a0_1).bind fun t554 => (if t554 = 0 then (skiarealaw16_ChainInterrupts.j0 k a1 l2 a3 (decide ((l2.length : Int) > 30)) l0_0 a0_1) else (skiarealaw16_ChainInterrupts.j0 k a1 l2 a3 true l0_0 a0_1))) = some r := by rw [if_pos rfl] at H; exact H
  clear H; have H := H1; clear H1; have HC7 := Aside0.mk H; clear H
  go_enter Try.func10, Try.ntmps10
  go_upto_region 3 with (first | ((with_reducible refine gate_dst (N := 4) rfl ?_); (try (refine gate_guard (by rfl) ?_; dsimp only)); refine box_event ?hg (N := 4) ?hd (cs := #[.slice A0_0 l0_0.length c0_0, .int .i64 a0_1]) (t := 24) ?hr ?_; (case hd => rfl); (case hg => rfl); (case hr => first | (go_simp; done) | (go_simp; rfl)); intro gb552 hg w8 hbox hb; have n0_ := Aside0.mk (below_step (by repeat (first | (with_reducible first | exact HB.out | apply below_alloc | apply pw_below_drewN | apply below_drew1) | exact HB.out)) hb); have n1_ := Aside0.mk (hbox); have n2_ := Aside0.mk ((by rw [hg]; exact (below_size (by repeat (first | (with_reducible first | exact HB.out | apply below_alloc | apply pw_below_drewN | apply below_drew1) | exact HB.out))) : w.heap.size ≤ gb552)); have n3_ := n2_; clear HB; have HB := n0_; have BK552 := n1_; have GW552 := n2_; have GE552 := n3_; clear n0_ n1_ n2_ n3_; clear hb hbox hg) | ((with_reducible refine gate_callee (f := 11) rfl ?_); refine goesL_ (some 18) rfl rfl Try.func11 (by kernel_rfl) rfl #[] rfl (by (try simp only [List.map_toArray, List.map_cons, List.map_nil]); first | done | rfl | (simp only [List.length_drop, List.length_take]; rfl)) ?_; (with_reducible refine (skiarealaw16_alive.calls k  true _ A5.out).mono ?_); rintro e w9 ⟨rfl, hb⟩; refine ⟨_, rfl, ?_⟩; have n0_ := Aside0.mk (bb_ BK552.out hb); have n1_ := Aside0.mk (below_step (by repeat (first | (with_reducible first | exact HB.out | apply below_alloc | apply pw_below_drewN | apply below_drew1 | refine below_set ?_ GE552.out) | exact HB.out)) hb); clear BK552; clear HB; have BK552 := n0_; have HB := n1_; clear n0_ n1_; (try clear hb); (try clear hb2); (try clear hk); (try clear hi)))
  (try simp only [Act.put, List.setIfInBounds_toArray, List.set_cons_zero, List.set_cons_succ])
  go_cut [27] (fun v27 wc => ∃ (kq : Nat) (x27_6 : Bool), v27 = .bool x27_6 ∧ Aside0 (skiarealaw16_ChainInterrupts.j0 kq a1 l2 a3 x27_6 l0_0 a0_1 = some r) ∧ Aside0 (kq ≤ k) ∧ Aside0 (wc.heap[gb552]? = some (.cells #[(.slice A0_0 l0_0.length c0_0), .int .i64 a0_1] 24 (0, 0))) ∧ Aside0 (Below w.heap.size w wc))
  case first =>
   have H := HC7.out; clear HC7
   replace H := Option.bind_eq_some_iff.mp H
   obtain ⟨t554, A100, H⟩ := H
   replace H : (if t554 = 0 then (skiarealaw16_ChainInterrupts.j0 k a1 l2 a3 (decide ((l2.length : Int) > 30)) l0_0 a0_1) else (skiarealaw16_ChainInterrupts.j0 k a1 l2 a3 true l0_0 a0_1)) = some r := H
   have A10 := Aside0.mk A100; clear A100
   by_cases c11 : t554 = 0
   ·rw [if_pos c11] at H
    have c11b0 : (t554 == 0) = true := beq_iff_eq.mpr c11; have c11b1 : (t554 != 0) = false := bne_eq_false_iff_eq.mpr c11; clear c11
    (first | rw [c11b0] | (simp only [i64_w, i32_w]; rw [c11b0]) | skip)
    have H' := Aside0.mk H; clear H; have hcz12_0 : w9.cell? ⟨gb552, 0, none⟩ = some (.slice A0_0 l0_0.length c0_0) := (blk_cell BK552.out 0).trans rfl; have hcz12_1 : w9.cell? ⟨gb552, 1, none⟩ = some (.int .i64 a0_1) := (blk_cell BK552.out 1).trans rfl; have hfz12_0 := blk_frozen BK552.out 0; have hfz12_1 := blk_frozen BK552.out 1
    go_wp2_with (first | ((with_reducible refine gate_callee (f := 12) rfl ?_); refine goesL_ (some 21) rfl rfl Try.func12 (by kernel_rfl) rfl #[.agg #[.slice A0_0 l0_0.length c0_0, .int .i64 a0_1]] rfl (by (try simp only [List.map_toArray, List.map_cons, List.map_nil]); first | done | rfl | (simp only [List.length_drop, List.length_take]; rfl)) ?_; (with_reducible refine (chain_Right.calls k _ _ l0_0 a0_1 t554 _ ?side1 ?side2 A10.out).mono ?_); (case side1 => repeat (first | exact (Kd.C_below HR0_0.out HB.out) | (with_reducible refine Kd.C_alloc ?_ _) | (with_reducible refine Kd.C_drewN ?_ _) | (with_reducible refine Kd.C_drew ?_))); (case side2 => exact HC0_0.out); rintro e w13 ⟨rfl, hb⟩; refine ⟨_, rfl, ?_⟩; have n0_ := Aside0.mk (bb_ BK552.out hb); have n1_ := Aside0.mk (below_step (by repeat (first | (with_reducible first | exact HB.out | apply below_alloc | apply pw_below_drewN | apply below_drew1 | refine below_set ?_ GE552.out) | exact HB.out)) hb); clear BK552; clear HB; have BK552 := n0_; have HB := n1_; clear n0_ n1_; (try clear hb); (try clear hb2); (try clear hk); (try clear hi)))
    go_meet
    case rel => exact ⟨_, (decide ((l2.length : Int) > 30)), (by first | rfl | (simp; done) | (simp [*]; done)), H', ⟨by first | omega | exact Nat.le_refl _⟩, ⟨by (with_reducible repeat (first | refine blk_drewN ?_ _ | refine blk_drew ?_ | refine blk_alloc ?_ _)); exact BK552.out⟩, ⟨by repeat (first | (with_reducible first | exact HB.out | apply below_alloc | apply pw_below_drewN | apply below_drew1 | refine below_set ?_ GE552.out) | exact HB.out)⟩⟩
   ·rw [if_neg c11] at H
    have c11b0 : (t554 == 0) = false := beq_eq_false_iff_ne.mpr c11; have c11b1 : (t554 != 0) = true := bne_iff_ne.mpr c11
    (first | rw [c11b0] | (simp only [i64_w, i32_w]; rw [c11b0]) | skip)
    have H' := Aside0.mk H; clear H; have hcz14_0 : w9.cell? ⟨gb552, 0, none⟩ = some (.slice A0_0 l0_0.length c0_0) := (blk_cell BK552.out 0).trans rfl; have hcz14_1 : w9.cell? ⟨gb552, 1, none⟩ = some (.int .i64 a0_1) := (blk_cell BK552.out 1).trans rfl; have hfz14_0 := blk_frozen BK552.out 0; have hfz14_1 := blk_frozen BK552.out 1
    go_wp2_with (first | ((with_reducible refine gate_callee (f := 12) rfl ?_); refine goesL_ (some 21) rfl rfl Try.func12 (by kernel_rfl) rfl #[.agg #[.slice A0_0 l0_0.length c0_0, .int .i64 a0_1]] rfl (by (try simp only [List.map_toArray, List.map_cons, List.map_nil]); first | done | rfl | (simp only [List.length_drop, List.length_take]; rfl)) ?_; (with_reducible refine (chain_Right.calls k _ _ l0_0 a0_1 t554 _ ?side1 ?side2 A10.out).mono ?_); (case side1 => repeat (first | exact (Kd.C_below HR0_0.out HB.out) | (with_reducible refine Kd.C_alloc ?_ _) | (with_reducible refine Kd.C_drewN ?_ _) | (with_reducible refine Kd.C_drew ?_))); (case side2 => exact HC0_0.out); rintro e w15 ⟨rfl, hb⟩; refine ⟨_, rfl, ?_⟩; have n0_ := Aside0.mk (bb_ BK552.out hb); have n1_ := Aside0.mk (below_step (by repeat (first | (with_reducible first | exact HB.out | apply below_alloc | apply pw_below_drewN | apply below_drew1 | refine below_set ?_ GE552.out) | exact HB.out)) hb); clear BK552; clear HB; have BK552 := n0_; have HB := n1_; clear n0_ n1_; (try clear hb); (try clear hb2); (try clear hk); (try clear hi)))
    go_meet
    case rel => exact ⟨_, (true), (by first | rfl | (simp; done) | (simp [*]; done)), H', ⟨by first | omega | exact Nat.le_refl _⟩, ⟨by (with_reducible repeat (first | refine blk_drewN ?_ _ | refine blk_drew ?_ | refine blk_alloc ?_ _)); exact BK552.out⟩, ⟨by repeat (first | (with_reducible first | exact HB.out | apply below_alloc | apply pw_below_drewN | apply below_drew1 | refine below_set ?_ GE552.out) | exact HB.out)⟩⟩
  case rest =>
   clear HC7
   try clear c1
   try clear c2
   try clear p2
   try clear c6
   try clear c10
   try clear c11
   try clear c11b0
   try clear c11b1
   try clear c12
   try clear hcz12_0
   try clear hcz12_1
   try clear hcz14_0
   try clear hcz14_1
   try clear hfz12_0
   try clear hfz12_1
   try clear hfz14_0
   try clear hfz14_1
   obtain ⟨kq, x27_6, rfl, HA, HJ6, BK552, HB⟩ := hcut
   cases kq with
   | zero => exact absurd HA.out (by simp [skiarealaw16_ChainInterrupts.j0])
   | succ kj6 =>
    have H := HA.out; clear HA
    simp only [skiarealaw16_ChainInterrupts.j0] at H
    by_cases c16 : x27_6 = true
    ·subst c16
     have H1 : (some true) = some r := by rw [if_pos rfl] at H; exact H
     clear H; have H := H1; clear H1
     obtain rfl := Option.some.inj H
     go_wp2
     go_ret
     exact ⟨by first | rfl | (simp [errW_none, errW_some] <;> rfl) | (simp [*, errW_none, errW_some] <;> rfl), by repeat (first | (with_reducible first | exact HB.out | apply below_alloc | apply pw_below_drewN | apply below_drew1 | refine below_set ?_ GE552.out) | exact HB.out)⟩
    ·replace c16 := Bool.eq_false_iff.mpr c16
     subst c16; have H1 : ((skiarealaw16_do.f kj6 l0_0 a0_1 0 a1 0 0).bind fun bt555 => (if bt555.2.2 = true then (skiarealaw16_ChainInterrupts.l0 kj6 a1 l2 a3 false false 0 bt555.1 bt555.2.1) else (some true))) = some r := by rw [if_neg (show ¬ (false = true) by decide)] at H; exact H
     clear H; have H := H1; clear H1
     replace H := Option.bind_eq_some_iff.mp H
     obtain ⟨⟨t555, t558, t559⟩, A170, H⟩ := H
     replace H : (if t559 = true then (skiarealaw16_ChainInterrupts.l0 kj6 a1 l2 a3 false false 0 t555 t558) else (some true)) = some r := H
     have A17 := Aside0.mk A170; clear A170
     by_cases c18 : t559 = true
     ·subst c18
      have H1 : (skiarealaw16_ChainInterrupts.l0 kj6 a1 l2 a3 false false 0 t555 t558) = some r := by rw [if_pos rfl] at H; exact H
      clear H; have H := H1; clear H1; have H' := Aside0.mk H; clear H; have hcz19_0 : wc.cell? ⟨gb552, 0, none⟩ = some (.slice A0_0 l0_0.length c0_0) := (blk_cell BK552.out 0).trans rfl; have hcz19_1 : wc.cell? ⟨gb552, 1, none⟩ = some (.int .i64 a0_1) := (blk_cell BK552.out 1).trans rfl; have hfz19_0 := blk_frozen BK552.out 0; have hfz19_1 := blk_frozen BK552.out 1
      go_wp2_with (first | ((with_reducible refine gate_callee (f := 30) rfl ?_); refine goesL_ (some 32) rfl rfl Try.func30 (by kernel_rfl) rfl #[.agg #[.slice A0_0 l0_0.length c0_0, .int .i64 a0_1], .agg #[.int .i64 0, .int .i64 a1, .int .i64 0, .int .i64 0]] rfl (by (try simp only [List.map_toArray, List.map_cons, List.map_nil]); first | done | rfl | (simp only [List.length_drop, List.length_take]; rfl)) ?_; (with_reducible refine (skiarealaw16_do.calls kj6 (fun k_ => k_ < w.heap.size) _ _ l0_0 a0_1 0 a1 0 0 t555 t558 true _ ?side1 A17.out).mono ?_); (case side1 => exact Kd.V_mk HC0_0.out (Kd.F_below (Kd.C_F k48_heap HR0_0.out) (by repeat (first | (with_reducible first | exact HB.out | apply below_alloc | apply pw_below_drewN | apply below_drew1 | refine below_set ?_ GE552.out) | exact HB.out)))); rintro e w20 ⟨v556, rfl, ho0, hb⟩; refine ⟨_, rfl, ?_⟩; have n0_ := Aside0.mk (Kd.V_lower (Kd.V_mono (ok' := fun k_ => k_ ≠ gb552) ho0 (fun k_ hk_ => Or.elim hk_ (fun hs_ => fun e_ => Nat.not_le.2 hs_ (by rw [e_]; exact GW552.out)) (fun hn_ => (Kd.freshB (g := gb552) (o := .cells #[.slice A0_0 l0_0.length c0_0, .int .i64 a0_1] 24 (0, 0)) (sb_ BK552.out) k_ hn_)))) (below_size (by repeat (first | (with_reducible first | exact HB.out | apply below_alloc | apply pw_below_drewN | apply below_drew1 | refine below_set ?_ GE552.out) | exact HB.out)))); have n1_ := Aside0.mk (bb_ BK552.out hb); have n2_ := Aside0.mk (below_step (by repeat (first | (with_reducible first | exact HB.out | apply below_alloc | apply pw_below_drewN | apply below_drew1 | refine below_set ?_ GE552.out) | exact HB.out)) hb); clear BK552; clear HB; have HO557 := n0_; have BK552 := n1_; have HB := n2_; clear n0_ n1_ n2_; (try clear hb); (try clear hb2); (try clear hk); (try clear hi); (try clear ho0)) | ((with_reducible refine gate_dst (N := 9) rfl ?_); (try (refine gate_guard (by rfl) ?_; dsimp only)); refine box_event ?hg (N := 9) ?hd (cs := #[.slice none 0 0, .int .i64 0]) (t := 24) ?hr ?_; (case hd => rfl); (case hg => rfl); (case hr => first | (go_simp; done) | (go_simp; rfl)); intro gb560 hg w21 hbox hb; have n0_ := Aside0.mk (Kd.V_below (Kd.V_elderB (by (with_reducible repeat (first | apply Kd.V_alloc | apply Kd.V_drewN | apply Kd.V_drew)); exact HO557.out) gb560 (Nat.le_of_eq hg.symm)) hb); have n1_ := Aside0.mk (bb_ BK552.out hb); have n2_ := Aside0.mk (below_step (by repeat (first | (with_reducible first | exact HB.out | apply below_alloc | apply pw_below_drewN | apply below_drew1 | refine below_set ?_ GE552.out) | exact HB.out)) hb); have n3_ := Aside0.mk (hbox); have n4_ := Aside0.mk ((by rw [hg]; exact (below_size (by repeat (first | (with_reducible first | exact HB.out | apply below_alloc | apply pw_below_drewN | apply below_drew1 | refine below_set ?_ GE552.out) | exact HB.out))) : w.heap.size ≤ gb560)); have n5_ := n4_; have n6_ := Aside0.mk (nl_ hg BK552.out); have n7_ := Aside0.mk (ng_ hg BK552.out); clear HO557; clear BK552; clear HB; have HO557 := n0_; have BK552 := n1_; have HB := n2_; have BK560 := n3_; have GW560 := n4_; have GE560 := n5_; have NB552_560 := n6_; have NB560_552 := n7_; clear n0_ n1_ n2_ n3_ n4_ n5_ n6_ n7_; clear hb hbox hg; obtain ⟨Ao22, co22, eo22⟩ := Kd.V_slice HO557.out; subst eo22; have hnb23 := NB560_552.out; have hnc23 := NB552_560.out; have hcz24_0 : w21.cell? ⟨gb560, 0, none⟩ = some (.slice none 0 0) := (blk_cell BK560.out 0).trans rfl; have hcz24_1 : w21.cell? ⟨gb560, 1, none⟩ = some (.int .i64 0) := (blk_cell BK560.out 1).trans rfl; have hfz24_0 := blk_frozen BK560.out 0; have hfz24_1 := blk_frozen BK560.out 1))
      go_loopg [12, 13] kj6 (fun kq v12 v13 w' => ∃ (x12_2 : Bool) (x13_2 : Int), v12 = .bool x12_2 ∧ v13 = .int .i64 x13_2 ∧ Aside0 (skiarealaw16_ChainInterrupts.l0 kq a1 l2 a3 false x12_2 x13_2 t555 t558 = some r) ∧ Aside0 (kq ≤ kj6) ∧ Aside0 (Kd.V k48 48 w' w.heap.size (fun k_ => k_ ≠ gb552 ∧ k_ ≠ gb560) (.slice Ao22 t555.length co22) t555) ∧ Aside0 (w'.heap[gb552]? = some (.cells #[(.slice A0_0 l0_0.length c0_0), .int .i64 a0_1] 24 (0, 0))) ∧ Aside0 (w'.heap[gb560]? = some (.cells #[(.slice Ao22 t555.length co22), .int .i64 t558] 24 (0, 0))) ∧ Aside0 (Below w.heap.size w w'))
      case atStart => exact ⟨(false), (0), (by first | rfl | (simp; done) | (simp [*]; done)), (by first | rfl | (simp; done) | (simp [*]; done)), H', ⟨Nat.le_refl _⟩, ⟨by (with_reducible repeat (first | apply Kd.V_alloc | apply Kd.V_drewN | apply Kd.V_drew)); exact Kd.V_mono (Kd.V_far (p := ⟨gb560, 1, none⟩) (Kd.V_far (p := ⟨gb560, 0, none⟩) (Kd.V_mono HO557.out (fun k_ hk => (⟨hk, hk.2⟩ : _ ∧ k_ ≠ gb560))) (fun _ hk => hk.2) (.slice Ao22 t555.length co22)) (fun _ hk => hk.2) (.int .i64 t558)) (fun _ hk => ⟨hk.1.1, hk.1.2⟩)⟩, ⟨by (with_reducible repeat (first | refine blk_drewN ?_ _ | refine blk_drew ?_ | refine blk_alloc ?_ _)); refine blk_far ?_ NB552_560.out _; (with_reducible repeat (first | refine blk_drewN ?_ _ | refine blk_drew ?_ | refine blk_alloc ?_ _)); refine blk_far ?_ NB552_560.out _; (with_reducible repeat (first | refine blk_drewN ?_ _ | refine blk_drew ?_ | refine blk_alloc ?_ _)); exact BK552.out⟩, ⟨by (with_reducible repeat (first | refine blk_drewN ?_ _ | refine blk_drew ?_ | refine blk_alloc ?_ _)); refine blk_put (cs := #[.slice Ao22 t555.length co22, .int .i64 0]) ?_ 1 _ rfl; (with_reducible repeat (first | refine blk_drewN ?_ _ | refine blk_drew ?_ | refine blk_alloc ?_ _)); refine blk_put (cs := #[.slice none 0 0, .int .i64 0]) ?_ 0 _ rfl; (with_reducible repeat (first | refine blk_drewN ?_ _ | refine blk_drew ?_ | refine blk_alloc ?_ _)); exact BK560.out⟩, ⟨by repeat (first | (with_reducible first | exact HB.out | apply below_alloc | apply pw_below_drewN | apply below_drew1 | refine below_set ?_ GE552.out | refine below_set ?_ GE560.out) | exact HB.out)⟩⟩
      case round =>
       clear H'
       try clear c1
       try clear c2
       try clear p2
       try clear c3
       try clear c6
       try clear c10
       try clear c11
       try clear c11b0
       try clear c11b1
       try clear c12
       try clear c16
       try clear c18
       try clear c23
       try clear hcz12_0
       try clear hcz12_1
       try clear hcz14_0
       try clear hcz14_1
       try clear hcz19_0
       try clear hcz19_1
       try clear hcz24_0
       try clear hcz24_1
       try clear hfz12_0
       try clear hfz12_1
       try clear hfz14_0
       try clear hfz14_1
       try clear hfz19_0
       try clear hfz19_1
       try clear hfz24_0
       try clear hfz24_1
       try clear p2
       obtain ⟨x12_2, x13_2, rfl, rfl, HA, HK2, HO_561000, BK552, BK560, HB⟩ := hrel
       cases gk with
       | zero => exact absurd HA.out (by simp [skiarealaw16_ChainInterrupts.l0])
       | succ k2 =>
        have H := HA.out; clear HA
        simp only [skiarealaw16_ChainInterrupts.l0] at H
        by_cases c25 : x13_2 < (t555.length : Int)
        ·rw [if_pos c25] at H
         have c25b0 : decide (x13_2 < (t555.length : Int)) = true := decide_eq_true c25; clear c25
         by_cases c26 : x12_2 = true
         ·subst c26
          have H1 : (skiarealaw16_ChainInterrupts.l0 k2 a1 l2 a3 false true (wrap64 (x13_2 + 1)) t555 t558) = some r := by rw [if_pos rfl] at H; exact H
          clear H; have H := H1; clear H1; have H' := Aside0.mk H; clear H; have hnb27 := NB560_552.out; have hnc27 := NB552_560.out; have hcz28_0 : wr.cell? ⟨gb560, 0, none⟩ = some (.slice Ao22 t555.length co22) := (blk_cell BK560.out 0).trans rfl; have hcz28_1 : wr.cell? ⟨gb560, 1, none⟩ = some (.int .i64 t558) := (blk_cell BK560.out 1).trans rfl; have hfz28_0 := blk_frozen BK560.out 0; have hfz28_1 := blk_frozen BK560.out 1
          go_wp2
          go_roundg k2
          case measure => have := HJ6.out; have := HK2.out; omega
          case rel => exact ⟨(true), (wrap64 (x13_2 + 1)), (by first | rfl | (simp; done) | (simp [*]; done)), (by first | rfl | (simp; done) | (simp [*]; done)), H', ⟨by have := HJ6.out; have := HK2.out; omega⟩, ⟨by (with_reducible repeat (first | apply Kd.V_alloc | apply Kd.V_drewN | apply Kd.V_drew)); exact HO_561000.out⟩, ⟨by (with_reducible repeat (first | refine blk_drewN ?_ _ | refine blk_drew ?_ | refine blk_alloc ?_ _)); exact BK552.out⟩, ⟨by (with_reducible repeat (first | refine blk_drewN ?_ _ | refine blk_drew ?_ | refine blk_alloc ?_ _)); exact BK560.out⟩, ⟨by repeat (first | (with_reducible first | exact HB.out | apply below_alloc | apply pw_below_drewN | apply below_drew1 | refine below_set ?_ GE552.out | refine below_set ?_ GE560.out) | exact HB.out)⟩⟩
         ·replace c26 := Bool.eq_false_iff.mpr c26
          subst c26; have H1 : (if 0 ≤ x13_2 then (if ((rd_T48 t555 x13_2).f0) = a1 then (skiarealaw16_ChainInterrupts.l0 k2 a1 l2 a3 false (decide (a3 < ((rd_T48 t555 x13_2).f4))) (wrap64 (x13_2 + 1)) t555 t558) else (skiarealaw16_ChainInterrupts.l0 k2 a1 l2 a3 false false (wrap64 (x13_2 + 1)) t555 t558)) else (none)) = some r := by rw [if_neg (show ¬ (false = true) by decide)] at H; exact H
          clear H; have H := H1; clear H1
          by_cases c29 : 0 ≤ x13_2
          ·rw [if_pos c29] at H
           have c29b0 : decide (0 ≤ x13_2) = true := decide_eq_true c29; clear c29
           by_cases c30 : ((rd_T48 t555 x13_2).f0) = a1
           ·rw [if_pos c30] at H
            have c30b0 : (((rd_T48 t555 x13_2).f0) == a1) = true := beq_iff_eq.mpr c30; have c30b1 : (((rd_T48 t555 x13_2).f0) != a1) = false := bne_eq_false_iff_eq.mpr c30; clear c30; have H' := Aside0.mk H; clear H; have hnb31 := NB560_552.out; have hnc31 := NB552_560.out; have hcz32_0 : wr.cell? ⟨gb560, 0, none⟩ = some (.slice Ao22 t555.length co22) := (blk_cell BK560.out 0).trans rfl; have hcz32_1 : wr.cell? ⟨gb560, 1, none⟩ = some (.int .i64 t558) := (blk_cell BK560.out 1).trans rfl; have hfz32_0 := blk_frozen BK560.out 0; have hfz32_1 := blk_frozen BK560.out 1; have p561 : 0 ≤ (x13_2 : Int) := of_decide_eq_true (by first | (with_reducible assumption) | assumption)
            have q561 : x13_2 < (t555.length : Int) := of_decide_eq_true (by first | (with_reducible assumption) | assumption)
            obtain ⟨ad561, e561, hx561_0, hx561_1, hx561_2, hx561_3, hx561_4⟩ := at_T48 (Kd.V_reads' HO_561000.out).2.2 x13_2 p561 q561
            cases e561
            replace p561 := eq_true p561
            replace q561 := eq_true q561
            have p562 : 0 ≤ (x13_2 : Int) := of_decide_eq_true (by first | (with_reducible assumption) | assumption)
            have q562 : x13_2 < (t555.length : Int) := of_decide_eq_true (by first | (with_reducible assumption) | assumption)
            obtain ⟨ad562, e562, hx562_0, hx562_1, hx562_2, hx562_3, hx562_4⟩ := at_T48 (Kd.V_reads' HO_561000.out).2.2 x13_2 p562 q562
            obtain rfl : ad561 = ad562 := (by injection e562)
            replace p562 := eq_true p562
            replace q562 := eq_true q562
            go_wp2
            go_roundg k2
            case measure => have := HJ6.out; have := HK2.out; omega
            case rel => exact ⟨(decide (a3 < ((rd_T48 t555 x13_2).f4))), (wrap64 (x13_2 + 1)), (by first | rfl | (simp; done) | (simp [*]; done)), (by first | rfl | (simp; done) | (simp [*]; done)), H', ⟨by have := HJ6.out; have := HK2.out; omega⟩, ⟨by (with_reducible repeat (first | apply Kd.V_alloc | apply Kd.V_drewN | apply Kd.V_drew)); exact HO_561000.out⟩, ⟨by (with_reducible repeat (first | refine blk_drewN ?_ _ | refine blk_drew ?_ | refine blk_alloc ?_ _)); exact BK552.out⟩, ⟨by (with_reducible repeat (first | refine blk_drewN ?_ _ | refine blk_drew ?_ | refine blk_alloc ?_ _)); exact BK560.out⟩, ⟨by repeat (first | (with_reducible first | exact HB.out | apply below_alloc | apply pw_below_drewN | apply below_drew1 | refine below_set ?_ GE552.out | refine below_set ?_ GE560.out) | exact HB.out)⟩⟩
           ·rw [if_neg c30] at H
            have c30b0 : (((rd_T48 t555 x13_2).f0) == a1) = false := beq_eq_false_iff_ne.mpr c30; have c30b1 : (((rd_T48 t555 x13_2).f0) != a1) = true := bne_iff_ne.mpr c30; have H' := Aside0.mk H; clear H; have hnb33 := NB560_552.out; have hnc33 := NB552_560.out; have hcz34_0 : wr.cell? ⟨gb560, 0, none⟩ = some (.slice Ao22 t555.length co22) := (blk_cell BK560.out 0).trans rfl; have hcz34_1 : wr.cell? ⟨gb560, 1, none⟩ = some (.int .i64 t558) := (blk_cell BK560.out 1).trans rfl; have hfz34_0 := blk_frozen BK560.out 0; have hfz34_1 := blk_frozen BK560.out 1; have p561 : 0 ≤ (x13_2 : Int) := of_decide_eq_true (by first | (with_reducible assumption) | assumption)
            have q561 : x13_2 < (t555.length : Int) := of_decide_eq_true (by first | (with_reducible assumption) | assumption)
            obtain ⟨ad561, e561, hx561_0, hx561_1, hx561_2, hx561_3, hx561_4⟩ := at_T48 (Kd.V_reads' HO_561000.out).2.2 x13_2 p561 q561
            cases e561
            replace p561 := eq_true p561
            replace q561 := eq_true q561
            go_wp2
            go_roundg k2
            case measure => have := HJ6.out; have := HK2.out; omega
            case rel => exact ⟨(false), (wrap64 (x13_2 + 1)), (by first | rfl | (simp; done) | (simp [*]; done)), (by first | rfl | (simp; done) | (simp [*]; done)), H', ⟨by have := HJ6.out; have := HK2.out; omega⟩, ⟨by (with_reducible repeat (first | apply Kd.V_alloc | apply Kd.V_drewN | apply Kd.V_drew)); exact HO_561000.out⟩, ⟨by (with_reducible repeat (first | refine blk_drewN ?_ _ | refine blk_drew ?_ | refine blk_alloc ?_ _)); exact BK552.out⟩, ⟨by (with_reducible repeat (first | refine blk_drewN ?_ _ | refine blk_drew ?_ | refine blk_alloc ?_ _)); exact BK560.out⟩, ⟨by repeat (first | (with_reducible first | exact HB.out | apply below_alloc | apply pw_below_drewN | apply below_drew1 | refine below_set ?_ GE552.out | refine below_set ?_ GE560.out) | exact HB.out)⟩⟩
          ·rw [if_neg c29] at H
           exact absurd H (by simp)
        ·rw [if_neg c25] at H
         have c25b0 : decide (x13_2 < (t555.length : Int)) = false := decide_eq_false c25; clear c25; have H' := Aside0.mk H; clear H; have hnb35 := NB560_552.out; have hnc35 := NB552_560.out; have hcz36_0 : wr.cell? ⟨gb560, 0, none⟩ = some (.slice Ao22 t555.length co22) := (blk_cell BK560.out 0).trans rfl; have hcz36_1 : wr.cell? ⟨gb560, 1, none⟩ = some (.int .i64 t558) := (blk_cell BK560.out 1).trans rfl; have hfz36_0 := blk_frozen BK560.out 0; have hfz36_1 := blk_frozen BK560.out 1
         go_wp2
         go_loopg [11, 12, 14] k2 (fun kq v11 v12 v14 w' => ∃ (x11_3 : Bool) (x12_3 : Bool) (x14_3 : Int) (x561000_3 : List (S48)) (x561001_3 : Int) (u561000 : Value), v11 = .bool x11_3 ∧ v12 = .bool x12_3 ∧ v14 = .int .i64 x14_3 ∧ Aside0 (skiarealaw16_ChainInterrupts.l1 kq a1 l2 a3 x11_3 x12_3 x14_3 x561000_3 x561001_3 = some r) ∧ Aside0 (kq ≤ k2) ∧ Aside0 (Kd.V k48 48 w' w.heap.size (fun k_ => k_ ≠ gb552 ∧ k_ ≠ gb560) u561000 x561000_3) ∧ Aside0 (w'.heap[gb552]? = some (.cells #[(.slice A0_0 l0_0.length c0_0), .int .i64 a0_1] 24 (0, 0))) ∧ Aside0 (w'.heap[gb560]? = some (.cells #[u561000, .int .i64 x561001_3] 24 (0, 0))) ∧ Aside0 (Below w.heap.size w w'))
         case atStart => exact ⟨(false), (x12_2), (0), (t555), (t558), (.slice Ao22 t555.length co22), (by first | rfl | (simp; done) | (simp [*]; done)), (by first | rfl | (simp; done) | (simp [*]; done)), (by first | rfl | (simp; done) | (simp [*]; done)), H', ⟨Nat.le_refl _⟩, ⟨by (with_reducible repeat (first | apply Kd.V_alloc | apply Kd.V_drewN | apply Kd.V_drew)); exact HO_561000.out⟩, ⟨by (with_reducible repeat (first | refine blk_drewN ?_ _ | refine blk_drew ?_ | refine blk_alloc ?_ _)); exact BK552.out⟩, ⟨by (with_reducible repeat (first | refine blk_drewN ?_ _ | refine blk_drew ?_ | refine blk_alloc ?_ _)); exact BK560.out⟩, ⟨by repeat (first | (with_reducible first | exact HB.out | apply below_alloc | apply pw_below_drewN | apply below_drew1 | refine below_set ?_ GE552.out | refine below_set ?_ GE560.out) | exact HB.out)⟩⟩
         case round =>
          clear H'
          try clear c1
          try clear c2
          try clear p2
          try clear c3
          try clear p5
          try clear q5
          try clear hx5
          try clear c6
          try clear p6
          try clear c10
          try clear c11
          try clear c11b0
          try clear c11b1
          try clear c12
          try clear c16
          try clear c18
          try clear c23
          try clear c25
          try clear c25b0
          try clear c26
          try clear c27
          try clear c29
          try clear c29b0
          try clear c30
          try clear c30b0
          try clear c30b1
          try clear c31
          try clear c33
          try clear c35
          try clear hcz12_0
          try clear hcz12_1
          try clear hcz14_0
          try clear hcz14_1
          try clear hcz19_0
          try clear hcz19_1
          try clear hcz24_0
          try clear hcz24_1
          try clear hcz28_0
          try clear hcz28_1
          try clear hcz32_0
          try clear hcz32_1
          try clear hcz34_0
          try clear hcz34_1
          try clear hcz36_0
          try clear hcz36_1
          try clear hfz12_0
          try clear hfz12_1
          try clear hfz14_0
          try clear hfz14_1
          try clear hfz19_0
          try clear hfz19_1
          try clear hfz24_0
          try clear hfz24_1
          try clear hfz28_0
          try clear hfz28_1
          try clear hfz32_0
          try clear hfz32_1
          try clear hfz34_0
          try clear hfz34_1
          try clear hfz36_0
          try clear hfz36_1
          try clear hx561_0
          try clear hx561_1
          try clear hx561_2
          try clear hx561_3
          try clear hx561_4
          try clear hx562_0
          try clear hx562_1
          try clear hx562_2
          try clear hx562_3
          try clear hx562_4
          try clear p2
          try clear p561
          try clear p562
          try clear q561
          try clear q562
          obtain ⟨x11_3, x12_3, x14_3, x561000_3, x561001_3, u561000, rfl, rfl, rfl, HA, HK3, HO_561000, BK552, BK560, HB⟩ := hrel
          cases gk with
          | zero => exact absurd HA.out (by simp [skiarealaw16_ChainInterrupts.l1])
          | succ k3 =>
           have H := HA.out; clear HA
           simp only [skiarealaw16_ChainInterrupts.l1] at H
           by_cases c37 : x14_3 < (l2.length : Int)
           ·rw [if_pos c37] at H
            have c37b0 : decide (x14_3 < (l2.length : Int)) = true := decide_eq_true c37; clear c37
            by_cases c38 : 0 ≤ x14_3
            ·rw [if_pos c38] at H
             have c38b0 : decide (0 ≤ x14_3) = true := decide_eq_true c38; clear c38
             replace H := Option.bind_eq_some_iff.mp H
             obtain ⟨⟨t564, t567, t568⟩, A390, H⟩ := H
             replace H : (if t568 = true then (skiarealaw16_ChainInterrupts.j3 k3 a1 l2 a3 x11_3 x12_3 x14_3 x561001_3 (((rd_T45 l2 x14_3).f1) != a1) t564 t567) else (skiarealaw16_ChainInterrupts.j3 k3 a1 l2 a3 x11_3 x12_3 x14_3 x561001_3 true t564 t567)) = some r := H
             have A39 := Aside0.mk A390; clear A390; have HC40 := Aside0.mk H; clear H; have hnb41 := NB560_552.out; have hnc41 := NB552_560.out; have hcz42_0 : wr.cell? ⟨gb560, 0, none⟩ = some (u561000) := (blk_cell BK560.out 0).trans rfl; have hcz42_1 : wr.cell? ⟨gb560, 1, none⟩ = some (.int .i64 x561001_3) := (blk_cell BK560.out 1).trans rfl; have hfz42_0 := blk_frozen BK560.out 0; have hfz42_1 := blk_frozen BK560.out 1
             obtain ⟨Ao43, co43, eo43⟩ := Kd.V_slice HO_561000.out
             subst eo43
             try go_wp2
             have n0_ := Aside0.mk (Kd.V_drew HO_561000.out); have n1_ := Aside0.mk (blk_drew BK552.out); have n2_ := Aside0.mk (blk_drew BK560.out); have n3_ := Aside0.mk (below_drew1 HB.out); clear HO_561000; clear BK552; clear BK560; clear HB; have HO_561000 := n0_; have BK552 := n1_; have BK560 := n2_; have HB := n3_; clear n0_ n1_ n2_ n3_; have p563 : 0 ≤ (x14_3 : Int) := of_decide_eq_true (by first | (with_reducible assumption) | assumption)
             have q563 : x14_3 < (l2.length : Int) := of_decide_eq_true (by first | (with_reducible assumption) | assumption)
             obtain ⟨ad563, e563, hx563_0, hx563_1, hx563_2, hx563_3⟩ := at_T45 HR2.out x14_3 p563 q563
             have hw563_3 := hx563_3; have hw563_2 := hx563_2; have hw563_1 := hx563_1; have hw563_0 := hx563_0
             cases e563
             replace hx563_0 := (HB.out.cell (World.block_lt_of_cell? w _ hx563_0)).trans hx563_0
             replace hx563_1 := (HB.out.cell (World.block_lt_of_cell? w _ hx563_1)).trans hx563_1
             replace hx563_2 := (HB.out.cell (World.block_lt_of_cell? w _ hx563_2)).trans hx563_2
             replace hx563_3 := (HB.out.cell (World.block_lt_of_cell? w _ hx563_3)).trans hx563_3
             replace p563 := eq_true p563
             replace q563 := eq_true q563
             refine start_ (n := 12) (S := fun w' => w'.cell? ⟨gb560, 0, none⟩ = some (.slice Ao43 x561000_3.length co43) ∧ w'.cell? ⟨gb560, 1, none⟩ = some (.int .i64 x561001_3) ∧ w'.cell? (ad563.add ((x14_3).toNat * 4)) = some (.int .i64 ((rd_T45 l2 x14_3).f0)) ∧ w'.cell? ⟨(ad563.add ((x14_3).toNat * 4)).block, (ad563.add ((x14_3).toNat * 4)).off + 1, none⟩ = some (.int .i64 ((rd_T45 l2 x14_3).f1)) ∧ w'.cell? ⟨(ad563.add ((x14_3).toNat * 4)).block, (ad563.add ((x14_3).toNat * 4)).off + 2, none⟩ = some (.int .i64 ((rd_T45 l2 x14_3).f2)) ∧ w'.cell? ⟨(ad563.add ((x14_3).toNat * 4)).block, (ad563.add ((x14_3).toNat * 4)).off + 3, none⟩ = some (.int .i64 ((rd_T45 l2 x14_3).f3))) (ds := []) #[false, false, false, false, false, false, false, false, false, false, false, false] (by kernel_rfl) rfl rfl ⟨(blk_cell BK560.out 0).trans rfl, (blk_cell BK560.out 1).trans rfl, ((HB.out.cell (World.block_lt_of_cell? w _ hw563_0)).trans hw563_0), ((HB.out.cell (World.block_lt_of_cell? w _ hw563_1)).trans hw563_1), ((HB.out.cell (World.block_lt_of_cell? w _ hw563_2)).trans hw563_2), ((HB.out.cell (World.block_lt_of_cell? w _ hw563_3)).trans hw563_3)⟩ (fun hHeld => ?_); refine with_tabW skiarealaw16_ChainInterrupts.tab17 skiarealaw16_ChainInterrupts.bits17 (fun HT_ HW_ => ?_)
             generalize wr.drew = w44 at HO_561000 BK552 BK560 HB hx563_0 hx563_1 hx563_2 hx563_3 hHeld ⊢
             refine pure_ (i := 1) (N := some 75) (v := ?_) (a' := ?_) #[false, true, false, false, false, false, false, false, false, false, false, false] rfl rfl (any_of HT_.out (by kernel_rfl)) (fun _ _ _ h => h) (Or.inl ⟨by rfl, ?_⟩) ?_ ?_
             rotate_left
             ·intro w'
              go_simp
              with_reducible rfl
             rotate_left
             ·simp only [Act.put, List.setIfInBounds_toArray, List.set_cons_zero, List.set_cons_succ, i64_w, i32_w]
              rfl
             refine pure_ (i := 2) (N := some 76) (v := ?_) (a' := ?_) #[false, true, true, false, false, false, false, false, false, false, false, false] rfl rfl (any_of HT_.out (by kernel_rfl)) (fun _ _ _ h => h) (Or.inl ⟨by rfl, ?_⟩) ?_ ?_
             rotate_left
             ·intro w'
              go_simp
              with_reducible rfl
             rotate_left
             ·simp only [Act.put, List.setIfInBounds_toArray, List.set_cons_zero, List.set_cons_succ, i64_w, i32_w]
              rfl
             refine pure_ (i := 3) (N := some 77) (v := ?_) (a' := ?_) #[false, true, true, true, false, false, false, false, false, false, false, false] rfl rfl (any_of HT_.out (by kernel_rfl)) (fun _ _ _ h => h) (Or.inl ⟨by rfl, ?_⟩) ?_ ?_
             rotate_left
             ·intro w'
              go_simp
              with_reducible rfl
             rotate_left
             ·simp only [Act.put, List.setIfInBounds_toArray, List.set_cons_zero, List.set_cons_succ, i64_w, i32_w]
              rfl
             refine take_ (i := 0) (N := some 74) (v := ?_) (a' := ?_) #[true, true, true, true, false, false, false, false, false, false, false, false] rfl rfl (take_ofW HT_.out HW_.out (by kernel_rfl)) (fun _ _ _ h => h) (Or.inl ⟨by rfl, ?_⟩) hHeld ?_ ?_
             rotate_left
             ·rintro w' ⟨s0, s1, s2, s3, s4, s5⟩
              go_simp
              with_reducible rfl
             rotate_left
             ·simp only [Act.put, List.setIfInBounds_toArray, List.set_cons_zero, List.set_cons_succ, i64_w, i32_w]
              rfl
             refine take_ (i := 4) (N := some 78) (v := ?_) (a' := ?_) #[true, true, true, true, true, false, false, false, false, false, false, false] rfl rfl (take_ofW HT_.out HW_.out (by kernel_rfl)) (fun _ _ _ h => h) (Or.inl ⟨by rfl, ?_⟩) hHeld ?_ ?_
             rotate_left
             ·rintro w' ⟨s0, s1, s2, s3, s4, s5⟩
              go_simp
              with_reducible rfl
             rotate_left
             ·simp only [Act.put, List.setIfInBounds_toArray, List.set_cons_zero, List.set_cons_succ, i64_w, i32_w]
              rfl
             refine join_ (σ := Value × Nat) 2 #[true, true, true, true, true, true, true, true, true, true, false, false] (fun s_ => [(79, .tuple #[.agg #[s_.1, .int .i64 t567], .bool t568]), (16, .pointer (some ⟨s_.2, 0, none⟩)), (73, .tuple #[.agg #[s_.1, .int .i64 t567], .bool t568]), (80, .agg #[s_.1, .int .i64 t567]), (81, .bool t568)]) (fun s_ w' => (w'.cell? ⟨gb560, 0, none⟩ = some (.slice Ao43 x561000_3.length co43) ∧ w'.cell? ⟨gb560, 1, none⟩ = some (.int .i64 x561001_3) ∧ w'.cell? (ad563.add ((x14_3).toNat * 4)) = some (.int .i64 ((rd_T45 l2 x14_3).f0)) ∧ w'.cell? ⟨(ad563.add ((x14_3).toNat * 4)).block, (ad563.add ((x14_3).toNat * 4)).off + 1, none⟩ = some (.int .i64 ((rd_T45 l2 x14_3).f1)) ∧ w'.cell? ⟨(ad563.add ((x14_3).toNat * 4)).block, (ad563.add ((x14_3).toNat * 4)).off + 2, none⟩ = some (.int .i64 ((rd_T45 l2 x14_3).f2)) ∧ w'.cell? ⟨(ad563.add ((x14_3).toNat * 4)).block, (ad563.add ((x14_3).toNat * 4)).off + 3, none⟩ = some (.int .i64 ((rd_T45 l2 x14_3).f3))) ∧ (Kd.V k48 48 w' w.heap.size (fun k_ => k_ ≠ gb552 ∧ k_ ≠ gb560 ∧ k_ ≠ s_.2) s_.1 t564) ∧ (Kd.V k48 48 w' w.heap.size (fun k_ => k_ ≠ gb552 ∧ k_ ≠ gb560 ∧ k_ ≠ s_.2) (.slice Ao43 x561000_3.length co43) x561000_3) ∧ (w'.heap[gb552]? = some (.cells #[.slice A0_0 l0_0.length c0_0, .int .i64 a0_1] 24 (0, 0))) ∧ (w'.heap[gb560]? = some (.cells #[.slice Ao43 x561000_3.length co43, .int .i64 x561001_3] 24 (0, 0))) ∧ (w'.heap[s_.2]? = some (.cells #[.slice none 0 0, .int .i64 0] 24 (0, 0))) ∧ (w.heap.size ≤ s_.2) ∧ (w.heap.size ≤ s_.2) ∧ (gb552 ≠ s_.2) ∧ (s_.2 ≠ gb552) ∧ (gb560 ≠ s_.2) ∧ (s_.2 ≠ gb560) ∧ (Below w.heap.size w w')) ?_ ?_
             rotate_left
             ·intro hCont
              refine two_ (i := 5) (j := 9) (Ni := some 79) (Nj := some 16) #[true, true, true, true, true, true, false, false, false, false, false, false] #[true, true, true, true, true, false, false, false, false, true, false, false] rfl rfl rfl rfl (two_of HT_.out (by kernel_rfl)) (by decide) (by decide) (fun K hK => ?_) (fun K hK => ?_)
              ·skip
               refine goes_ Try.func30 (by kernel_rfl) rfl #[.agg #[.slice Ao43 x561000_3.length co43, .int .i64 x561001_3], .agg #[.int .i64 ((rd_T45 l2 x14_3).f0), .int .i64 ((rd_T45 l2 x14_3).f1), .int .i64 ((rd_T45 l2 x14_3).f2), .int .i64 ((rd_T45 l2 x14_3).f3)]] (by rfl) rfl rfl (by (try simp only [List.map_toArray, List.map_cons, List.map_nil]); first | done | rfl | (simp only [List.length_drop, List.length_take]; rfl)) ?_
               with_reducible refine (skiarealaw16_do.calls k3 (fun k_ => (k_ ≠ gb552 ∧ k_ ≠ gb560)) _ _ x561000_3 x561001_3 ((rd_T45 l2 x14_3).f0) ((rd_T45 l2 x14_3).f1) ((rd_T45 l2 x14_3).f2) ((rd_T45 l2 x14_3).f3) t564 t567 t568 _ ?side1 A39.out).mono ?_
               (case side1 => exact HO_561000.out)
               rintro e w45 ⟨v565, rfl, ho0, hb⟩
               refine ⟨_, rfl, ?_⟩
               have n0_ := Aside0.mk (Kd.V_below (by (with_reducible repeat (first | apply Kd.V_alloc | apply Kd.V_drewN | apply Kd.V_drew)); exact HO_561000.out) hb)
               have n1_ := Aside0.mk (Kd.V_lower (Kd.V_mono (ok' := fun k_ => k_ ≠ gb552 ∧ k_ ≠ gb560) ho0 (fun k_ hk_ => ⟨Or.elim hk_ (fun hs_ => hs_.1) (fun hn_ => (Kd.freshB (g := gb552) (o := .cells #[.slice A0_0 l0_0.length c0_0, .int .i64 a0_1] 24 (0, 0)) (sb_ BK552.out) k_ hn_)), Or.elim hk_ (fun hs_ => hs_.2) (fun hn_ => (Kd.freshB (g := gb560) (o := .cells #[.slice Ao43 x561000_3.length co43, .int .i64 x561001_3] 24 (0, 0)) (sb_ BK560.out) k_ hn_))⟩)) (below_size (by repeat (first | (with_reducible first | exact HB.out | apply below_alloc | apply pw_below_drewN | apply below_drew1 | refine below_set ?_ GE552.out | refine below_set ?_ GE560.out) | exact HB.out))))
               have n2_ := Aside0.mk (bb_ BK552.out hb); have n3_ := Aside0.mk (bb_ BK560.out hb); have n4_ := Aside0.mk (below_step (by repeat (first | (with_reducible first | exact HB.out | apply below_alloc | apply pw_below_drewN | apply below_drew1 | refine below_set ?_ GE552.out | refine below_set ?_ GE560.out) | exact HB.out)) hb)
               clear HO_561000; clear BK552; clear BK560; clear HB; have HO_561000 := n0_; have HO566 := n1_; have BK552 := n2_; have BK560 := n3_; have HB := n4_; clear n0_ n1_ n2_ n3_ n4_
               (try clear hb)
               (try clear hb2)
               (try clear hk)
               (try clear hi)
               (try clear ho0)
               refine hK.out _ _ ⟨(blk_cell BK560.out 0).trans rfl, (blk_cell BK560.out 1).trans rfl, ((HB.out.cell (World.block_lt_of_cell? w _ hw563_0)).trans hw563_0), ((HB.out.cell (World.block_lt_of_cell? w _ hw563_1)).trans hw563_1), ((HB.out.cell (World.block_lt_of_cell? w _ hw563_2)).trans hw563_2), ((HB.out.cell (World.block_lt_of_cell? w _ hw563_3)).trans hw563_3)⟩ (fun hHeld => ?_)
               clear hK K
               refine norm_ (a' := ?_) ?_ ?_
               rotate_left
               ·show Act.put _ (some 79) _ = _
                simp only [Act.put, List.setIfInBounds_toArray, List.set_cons_zero, List.set_cons_succ, i64_w, i32_w]
                rfl
               refine pure_ (i := 6) (N := some 73) (v := ?_) (a' := ?_) #[true, true, true, true, true, true, true, false, false, false, false, false] rfl rfl (any_of HT_.out (by kernel_rfl)) (fun _ _ _ h => h) (Or.inl ⟨by rfl, ?_⟩) ?_ ?_
               rotate_left
               ·intro w'
                go_simp
                with_reducible rfl
               rotate_left
               ·simp only [Act.put, List.setIfInBounds_toArray, List.set_cons_zero, List.set_cons_succ, i64_w, i32_w]
                rfl
               refine pure_ (i := 7) (N := some 80) (v := ?_) (a' := ?_) #[true, true, true, true, true, true, true, true, false, false, false, false] rfl rfl (any_of HT_.out (by kernel_rfl)) (fun _ _ _ h => h) (Or.inl ⟨by rfl, ?_⟩) ?_ ?_
               rotate_left
               ·intro w'
                go_simp
                with_reducible rfl
               rotate_left
               ·simp only [Act.put, List.setIfInBounds_toArray, List.set_cons_zero, List.set_cons_succ, i64_w, i32_w]
                rfl
               refine pure_ (i := 8) (N := some 81) (v := ?_) (a' := ?_) #[true, true, true, true, true, true, true, true, true, false, false, false] rfl rfl (any_of HT_.out (by kernel_rfl)) (fun _ _ _ h => h) (Or.inl ⟨by rfl, ?_⟩) ?_ ?_
               rotate_left
               ·intro w'
                go_simp
                with_reducible rfl
               rotate_left
               ·simp only [Act.put, List.setIfInBounds_toArray, List.set_cons_zero, List.set_cons_succ, i64_w, i32_w]
                rfl
               refine one_ (i := 9) (N := some 16) #[true, true, true, true, true, true, true, true, true, true, false, false] rfl rfl (one_of HT_.out (by kernel_rfl)) (by decide) (fun K hK => ?_)
               refine box_step ?hg (N := 16) ?hd (cs := #[.slice none 0 0, .int .i64 0]) (t := 24) ?hr ?_; (case hd => rfl); (case hg => rfl); (case hr => first | (go_simp; done) | (go_simp; rfl))
               intro gb569 hg w46 hbox hb
               have n0_ := Aside0.mk (Kd.V_below (Kd.V_elderB (by (with_reducible repeat (first | apply Kd.V_alloc | apply Kd.V_drewN | apply Kd.V_drew)); exact HO_561000.out) gb569 (Nat.le_of_eq hg.symm)) hb)
               have n1_ := Aside0.mk (Kd.V_below (Kd.V_elderB (by (with_reducible repeat (first | apply Kd.V_alloc | apply Kd.V_drewN | apply Kd.V_drew)); exact HO566.out) gb569 (Nat.le_of_eq hg.symm)) hb)
               have n2_ := Aside0.mk (bb_ BK552.out hb); have n3_ := Aside0.mk (bb_ BK560.out hb); have n4_ := Aside0.mk (below_step (by repeat (first | (with_reducible first | exact HB.out | apply below_alloc | apply pw_below_drewN | apply below_drew1 | refine below_set ?_ GE552.out | refine below_set ?_ GE560.out) | exact HB.out)) hb)
               have n5_ := Aside0.mk (hbox); have n6_ := Aside0.mk ((by rw [hg]; exact (below_size (by repeat (first | (with_reducible first | exact HB.out | apply below_alloc | apply pw_below_drewN | apply below_drew1 | refine below_set ?_ GE552.out | refine below_set ?_ GE560.out) | exact HB.out))) : w.heap.size ≤ gb569))
               have n7_ := Aside0.mk ((by rw [hg]; exact (below_size (by repeat (first | (with_reducible first | exact HB.out | apply below_alloc | apply pw_below_drewN | apply below_drew1 | refine below_set ?_ GE552.out | refine below_set ?_ GE560.out) | exact HB.out))) : w.heap.size ≤ gb569))
               have n8_ := Aside0.mk (nl_ hg BK552.out)
               have n9_ := Aside0.mk (ng_ hg BK552.out)
               have n10_ := Aside0.mk (nl_ hg BK560.out)
               have n11_ := Aside0.mk (ng_ hg BK560.out)
               clear HO_561000; clear HO566; clear BK552; clear BK560; clear HB; have HO_561000 := n0_; have HO566 := n1_; have BK552 := n2_; have BK560 := n3_; have HB := n4_; have BK569 := n5_; have GW569 := n6_; have GE569 := n7_; have NB552_569 := n8_; have NB569_552 := n9_; have NB560_569 := n10_; have NB569_560 := n11_; clear n0_ n1_ n2_ n3_ n4_ n5_ n6_ n7_ n8_ n9_ n10_ n11_; clear hb hbox hg
               refine hK.out _ _ ⟨(blk_cell BK560.out 0).trans rfl, (blk_cell BK560.out 1).trans rfl, ((HB.out.cell (World.block_lt_of_cell? w _ hw563_0)).trans hw563_0), ((HB.out.cell (World.block_lt_of_cell? w _ hw563_1)).trans hw563_1), ((HB.out.cell (World.block_lt_of_cell? w _ hw563_2)).trans hw563_2), ((HB.out.cell (World.block_lt_of_cell? w _ hw563_3)).trans hw563_3)⟩ (fun hHeld => ?_)
               clear hK K
               refine norm_ (a' := ?_) ?_ ?_
               rotate_left
               ·show Act.put _ (some 16) _ = _
                simp only [Act.put, List.setIfInBounds_toArray, List.set_cons_zero, List.set_cons_succ, i64_w, i32_w]
                rfl
               exact norm_ (by simp only [putAll, Act.put, List.setIfInBounds_toArray, List.set_cons_zero, List.set_cons_succ]) (hCont (v565, gb569) _ ⟨hHeld, (by (with_reducible repeat (first | apply Kd.V_alloc | apply Kd.V_drewN | apply Kd.V_drew)); exact Kd.V_mono HO566.out (fun _ hk => ⟨hk.1.1, ⟨hk.1.2, hk.2⟩⟩)), (by (with_reducible repeat (first | apply Kd.V_alloc | apply Kd.V_drewN | apply Kd.V_drew)); exact Kd.V_mono HO_561000.out (fun _ hk => ⟨hk.1.1, ⟨hk.1.2, hk.2⟩⟩)), (sb_ BK552.out), (sb_ BK560.out), (sb_ BK569.out), GW569.out, GE569.out, NB552_569.out, NB569_552.out, NB560_569.out, NB569_560.out, (by repeat (first | (with_reducible first | exact HB.out | apply below_alloc | apply pw_below_drewN | apply below_drew1 | refine below_set ?_ GE552.out | refine below_set ?_ GE560.out | refine below_set ?_ GE569.out) | exact HB.out))⟩)
              ·skip
               refine box_step ?hg (N := 16) ?hd (cs := #[.slice none 0 0, .int .i64 0]) (t := 24) ?hr ?_; (case hd => rfl); (case hg => rfl); (case hr => first | (go_simp; done) | (go_simp; rfl))
               intro gb569 hg w45 hbox hb
               have n0_ := Aside0.mk (Kd.V_below (Kd.V_elderB (by (with_reducible repeat (first | apply Kd.V_alloc | apply Kd.V_drewN | apply Kd.V_drew)); exact HO_561000.out) gb569 (Nat.le_of_eq hg.symm)) hb)
               have n1_ := Aside0.mk (bb_ BK552.out hb); have n2_ := Aside0.mk (bb_ BK560.out hb); have n3_ := Aside0.mk (below_step (by repeat (first | (with_reducible first | exact HB.out | apply below_alloc | apply pw_below_drewN | apply below_drew1 | refine below_set ?_ GE552.out | refine below_set ?_ GE560.out) | exact HB.out)) hb)
               have n4_ := Aside0.mk (hbox); have n5_ := Aside0.mk ((by rw [hg]; exact (below_size (by repeat (first | (with_reducible first | exact HB.out | apply below_alloc | apply pw_below_drewN | apply below_drew1 | refine below_set ?_ GE552.out | refine below_set ?_ GE560.out) | exact HB.out))) : w.heap.size ≤ gb569))
               have n6_ := Aside0.mk ((by rw [hg]; exact (below_size (by repeat (first | (with_reducible first | exact HB.out | apply below_alloc | apply pw_below_drewN | apply below_drew1 | refine below_set ?_ GE552.out | refine below_set ?_ GE560.out) | exact HB.out))) : w.heap.size ≤ gb569))
               have n7_ := Aside0.mk (nl_ hg BK552.out)
               have n8_ := Aside0.mk (ng_ hg BK552.out)
               have n9_ := Aside0.mk (nl_ hg BK560.out)
               have n10_ := Aside0.mk (ng_ hg BK560.out)
               clear HO_561000; clear BK552; clear BK560; clear HB; have HO_561000 := n0_; have BK552 := n1_; have BK560 := n2_; have HB := n3_; have BK569 := n4_; have GW569 := n5_; have GE569 := n6_; have NB552_569 := n7_; have NB569_552 := n8_; have NB560_569 := n9_; have NB569_560 := n10_; clear n0_ n1_ n2_ n3_ n4_ n5_ n6_ n7_ n8_ n9_ n10_; clear hb hbox hg
               refine hK.out _ _ ⟨(blk_cell BK560.out 0).trans rfl, (blk_cell BK560.out 1).trans rfl, ((HB.out.cell (World.block_lt_of_cell? w _ hw563_0)).trans hw563_0), ((HB.out.cell (World.block_lt_of_cell? w _ hw563_1)).trans hw563_1), ((HB.out.cell (World.block_lt_of_cell? w _ hw563_2)).trans hw563_2), ((HB.out.cell (World.block_lt_of_cell? w _ hw563_3)).trans hw563_3)⟩ (fun hHeld => ?_)
               clear hK K
               refine norm_ (a' := ?_) ?_ ?_
               rotate_left
               ·show Act.put _ (some 16) _ = _
                simp only [Act.put, List.setIfInBounds_toArray, List.set_cons_zero, List.set_cons_succ, i64_w, i32_w]
                rfl
               refine one_ (i := 5) (N := some 79) #[true, true, true, true, true, true, false, false, false, true, false, false] rfl rfl (one_of HT_.out (by kernel_rfl)) (by decide) (fun K hK => ?_)
               refine goes_ Try.func30 (by kernel_rfl) rfl #[.agg #[.slice Ao43 x561000_3.length co43, .int .i64 x561001_3], .agg #[.int .i64 ((rd_T45 l2 x14_3).f0), .int .i64 ((rd_T45 l2 x14_3).f1), .int .i64 ((rd_T45 l2 x14_3).f2), .int .i64 ((rd_T45 l2 x14_3).f3)]] (by rfl) rfl rfl (by (try simp only [List.map_toArray, List.map_cons, List.map_nil]); first | done | rfl | (simp only [List.length_drop, List.length_take]; rfl)) ?_
               with_reducible refine (skiarealaw16_do.calls k3 (fun k_ => ((k_ ≠ gb552 ∧ k_ ≠ gb560) ∧ k_ ≠ gb569)) _ _ x561000_3 x561001_3 ((rd_T45 l2 x14_3).f0) ((rd_T45 l2 x14_3).f1) ((rd_T45 l2 x14_3).f2) ((rd_T45 l2 x14_3).f3) t564 t567 t568 _ ?side1 A39.out).mono ?_
               (case side1 => exact HO_561000.out)
               rintro e w46 ⟨v565, rfl, ho0, hb⟩
               refine ⟨_, rfl, ?_⟩
               have n0_ := Aside0.mk (Kd.V_below (by (with_reducible repeat (first | apply Kd.V_alloc | apply Kd.V_drewN | apply Kd.V_drew)); exact HO_561000.out) hb)
               have n1_ := Aside0.mk (Kd.V_lower (Kd.V_mono (ok' := fun k_ => k_ ≠ gb552 ∧ k_ ≠ gb560 ∧ k_ ≠ gb569) ho0 (fun k_ hk_ => ⟨Or.elim hk_ (fun hs_ => hs_.1.1) (fun hn_ => (Kd.freshB (g := gb552) (o := .cells #[.slice A0_0 l0_0.length c0_0, .int .i64 a0_1] 24 (0, 0)) (sb_ BK552.out) k_ hn_)), Or.elim hk_ (fun hs_ => hs_.1.2) (fun hn_ => (Kd.freshB (g := gb560) (o := .cells #[.slice Ao43 x561000_3.length co43, .int .i64 x561001_3] 24 (0, 0)) (sb_ BK560.out) k_ hn_)), Or.elim hk_ (fun hs_ => hs_.2) (fun hn_ => (Kd.freshB (g := gb569) (o := .cells #[.slice none 0 0, .int .i64 0] 24 (0, 0)) (sb_ BK569.out) k_ hn_))⟩)) (below_size (by repeat (first | (with_reducible first | exact HB.out | apply below_alloc | apply pw_below_drewN | apply below_drew1 | refine below_set ?_ GE552.out | refine below_set ?_ GE560.out | refine below_set ?_ GE569.out) | exact HB.out))))
               have n2_ := Aside0.mk (bb_ BK552.out hb); have n3_ := Aside0.mk (bb_ BK560.out hb); have n4_ := Aside0.mk (bb_ BK569.out hb); have n5_ := Aside0.mk (below_step (by repeat (first | (with_reducible first | exact HB.out | apply below_alloc | apply pw_below_drewN | apply below_drew1 | refine below_set ?_ GE552.out | refine below_set ?_ GE560.out | refine below_set ?_ GE569.out) | exact HB.out)) hb)
               clear HO_561000; clear BK552; clear BK560; clear BK569; clear HB; have HO_561000 := n0_; have HO566 := n1_; have BK552 := n2_; have BK560 := n3_; have BK569 := n4_; have HB := n5_; clear n0_ n1_ n2_ n3_ n4_ n5_
               (try clear hb)
               (try clear hb2)
               (try clear hk)
               (try clear hi)
               (try clear ho0)
               refine hK.out _ _ ⟨(blk_cell BK560.out 0).trans rfl, (blk_cell BK560.out 1).trans rfl, ((HB.out.cell (World.block_lt_of_cell? w _ hw563_0)).trans hw563_0), ((HB.out.cell (World.block_lt_of_cell? w _ hw563_1)).trans hw563_1), ((HB.out.cell (World.block_lt_of_cell? w _ hw563_2)).trans hw563_2), ((HB.out.cell (World.block_lt_of_cell? w _ hw563_3)).trans hw563_3)⟩ (fun hHeld => ?_)
               clear hK K
               refine norm_ (a' := ?_) ?_ ?_
               rotate_left
               ·show Act.put _ (some 79) _ = _
                simp only [Act.put, List.setIfInBounds_toArray, List.set_cons_zero, List.set_cons_succ, i64_w, i32_w]
                rfl
               refine pure_ (i := 6) (N := some 73) (v := ?_) (a' := ?_) #[true, true, true, true, true, true, true, false, false, true, false, false] rfl rfl (any_of HT_.out (by kernel_rfl)) (fun _ _ _ h => h) (Or.inl ⟨by rfl, ?_⟩) ?_ ?_
               rotate_left
               ·intro w'
                go_simp
                with_reducible rfl
               rotate_left
               ·simp only [Act.put, List.setIfInBounds_toArray, List.set_cons_zero, List.set_cons_succ, i64_w, i32_w]
                rfl
               refine pure_ (i := 7) (N := some 80) (v := ?_) (a' := ?_) #[true, true, true, true, true, true, true, true, false, true, false, false] rfl rfl (any_of HT_.out (by kernel_rfl)) (fun _ _ _ h => h) (Or.inl ⟨by rfl, ?_⟩) ?_ ?_
               rotate_left
               ·intro w'
                go_simp
                with_reducible rfl
               rotate_left
               ·simp only [Act.put, List.setIfInBounds_toArray, List.set_cons_zero, List.set_cons_succ, i64_w, i32_w]
                rfl
               refine pure_ (i := 8) (N := some 81) (v := ?_) (a' := ?_) #[true, true, true, true, true, true, true, true, true, true, false, false] rfl rfl (any_of HT_.out (by kernel_rfl)) (fun _ _ _ h => h) (Or.inl ⟨by rfl, ?_⟩) ?_ ?_
               rotate_left
               ·intro w'
                go_simp
                with_reducible rfl
               rotate_left
               ·simp only [Act.put, List.setIfInBounds_toArray, List.set_cons_zero, List.set_cons_succ, i64_w, i32_w]
                rfl
               exact norm_ (by simp only [putAll, Act.put, List.setIfInBounds_toArray, List.set_cons_zero, List.set_cons_succ]) (hCont (v565, gb569) _ ⟨hHeld, (by (with_reducible repeat (first | apply Kd.V_alloc | apply Kd.V_drewN | apply Kd.V_drew)); exact HO566.out), (by (with_reducible repeat (first | apply Kd.V_alloc | apply Kd.V_drewN | apply Kd.V_drew)); exact Kd.V_mono HO_561000.out (fun _ hk => ⟨hk.1.1, ⟨hk.1.2, hk.2⟩⟩)), (sb_ BK552.out), (sb_ BK560.out), (sb_ BK569.out), GW569.out, GE569.out, NB552_569.out, NB569_552.out, NB560_569.out, NB569_560.out, (by repeat (first | (with_reducible first | exact HB.out | apply below_alloc | apply pw_below_drewN | apply below_drew1 | refine below_set ?_ GE552.out | refine below_set ?_ GE560.out | refine below_set ?_ GE569.out) | exact HB.out))⟩)
             rintro ⟨v565, gb569⟩ w47 ⟨hS_, h0_, h1_, h2_, h3_, h4_, h5_, h6_, h7_, h8_, h9_, h10_, h11_⟩
             have n0_ : Aside0 (Kd.V k48 48 w47 w.heap.size (fun k_ => k_ ≠ gb552 ∧ k_ ≠ gb560 ∧ k_ ≠ gb569) v565 t564) := ⟨h0_⟩
             have n1_ : Aside0 (Kd.V k48 48 w47 w.heap.size (fun k_ => k_ ≠ gb552 ∧ k_ ≠ gb560 ∧ k_ ≠ gb569) (.slice Ao43 x561000_3.length co43) x561000_3) := ⟨h1_⟩
             have n2_ : Aside0 (w47.heap[gb552]? = some (.cells #[.slice A0_0 l0_0.length c0_0, .int .i64 a0_1] 24 (0, 0))) := ⟨h2_⟩; have n3_ : Aside0 (w47.heap[gb560]? = some (.cells #[.slice Ao43 x561000_3.length co43, .int .i64 x561001_3] 24 (0, 0))) := ⟨h3_⟩; have n4_ : Aside0 (w47.heap[gb569]? = some (.cells #[.slice none 0 0, .int .i64 0] 24 (0, 0))) := ⟨h4_⟩; have n5_ : Aside0 (w.heap.size ≤ gb569) := ⟨h5_⟩; have n6_ : Aside0 (w.heap.size ≤ gb569) := ⟨h6_⟩; have n7_ : Aside0 (gb552 ≠ gb569) := ⟨h7_⟩; have n8_ : Aside0 (gb569 ≠ gb552) := ⟨h8_⟩; have n9_ : Aside0 (gb560 ≠ gb569) := ⟨h9_⟩; have n10_ : Aside0 (gb569 ≠ gb560) := ⟨h10_⟩; have n11_ : Aside0 (Below w.heap.size w w47) := ⟨h11_⟩; clear HO_561000; clear BK552; clear BK560; clear HB; clear h0_ h1_ h2_ h3_ h4_ h5_ h6_ h7_ h8_ h9_ h10_ h11_; have HO566 := n0_; have HO_561000 := n1_; have BK552 := n2_; have BK560 := n3_; have BK569 := n4_; have GW569 := n5_; have GE569 := n6_; have NB552_569 := n7_; have NB569_552 := n8_; have NB560_569 := n9_; have NB569_560 := n10_; have HB := n11_; clear n0_ n1_ n2_ n3_ n4_ n5_ n6_ n7_ n8_ n9_ n10_ n11_; have hHeld : w47.cell? ⟨gb560, 0, none⟩ = some (.slice Ao43 x561000_3.length co43) ∧ w47.cell? ⟨gb560, 1, none⟩ = some (.int .i64 x561001_3) ∧ w47.cell? (ad563.add ((x14_3).toNat * 4)) = some (.int .i64 ((rd_T45 l2 x14_3).f0)) ∧ w47.cell? ⟨(ad563.add ((x14_3).toNat * 4)).block, (ad563.add ((x14_3).toNat * 4)).off + 1, none⟩ = some (.int .i64 ((rd_T45 l2 x14_3).f1)) ∧ w47.cell? ⟨(ad563.add ((x14_3).toNat * 4)).block, (ad563.add ((x14_3).toNat * 4)).off + 2, none⟩ = some (.int .i64 ((rd_T45 l2 x14_3).f2)) ∧ w47.cell? ⟨(ad563.add ((x14_3).toNat * 4)).block, (ad563.add ((x14_3).toNat * 4)).off + 3, none⟩ = some (.int .i64 ((rd_T45 l2 x14_3).f3)) := hS_
             obtain ⟨Ao48, co48, eo48⟩ := Kd.V_slice HO566.out
             (first | subst eo48 | (injection eo48 with f1_ f2_ f3_; have f4_ := f1_.symm; have f5_ := f3_.symm; clear f1_ f2_ f3_; subst f4_; subst f5_))
             refine norm_ (a' := ?_) ?_ ?_
             rotate_left
             ·simp only [putAll, Act.put, List.setIfInBounds_toArray, List.set_cons_zero, List.set_cons_succ]
              rfl
             refine one_ (i := 10) (N := none) #[true, true, true, true, true, true, true, true, true, true, true, false] rfl rfl (one_of HT_.out (by kernel_rfl)) (by decide) (fun K hK => ?_)
             have hs49 : w47.cell? ⟨gb569, 0, none⟩ = some (.slice none 0 0) := (blk_cell BK569.out 0).trans rfl; have hfs49 := blk_frozen BK569.out 0; have hns49_0 := NB552_569.out; have hns49_1 := NB560_569.out; have hms49_0 := NB569_552.out; have hms49_1 := NB569_560.out; have hs50 : w47.cell? ⟨gb569, 1, none⟩ = some (.int .i64 0) := (blk_cell BK569.out 1).trans rfl; have hfs50 := blk_frozen BK569.out 1; have hns50_0 := NB552_569.out; have hns50_1 := NB560_569.out; have hms50_0 := NB569_552.out; have hms50_1 := NB569_560.out
             refine skip_ (w1 := ?_) (by rfl) rfl ?_ ?_
             rotate_left
             ·go_simp
              rfl
             refine hK.out _ _ ⟨((cell_far (p := ⟨gb569, _, none⟩) NB560_569.out _).trans (((cell_far (p := ⟨gb569, _, none⟩) NB560_569.out _).trans (hHeld.1)))), ((cell_far (p := ⟨gb569, _, none⟩) NB560_569.out _).trans (((cell_far (p := ⟨gb569, _, none⟩) NB560_569.out _).trans (hHeld.2.1)))), ((cell_far (p := ⟨gb569, _, none⟩) (by first | exact Nat.ne_of_lt (Nat.lt_of_lt_of_le (by have := World.block_lt_of_cell? _ _ hw563_0; first | rwa [add_block] at this | exact this) GW569.out) | (rw [add_block]; exact Nat.ne_of_lt (Nat.lt_of_lt_of_le (by have := World.block_lt_of_cell? _ _ hw563_0; first | rwa [add_block] at this | exact this) GW569.out)) | (show (Addr.add _ _).block ≠ _; rw [add_block]; exact Nat.ne_of_lt (Nat.lt_of_lt_of_le (by have := World.block_lt_of_cell? _ _ hw563_0; first | rwa [add_block] at this | exact this) GW569.out)) | (dsimp only; exact Nat.ne_of_lt (Nat.lt_of_lt_of_le (by have := World.block_lt_of_cell? _ _ hw563_0; first | rwa [add_block] at this | exact this) GW569.out))) _).trans (((cell_far (p := ⟨gb569, _, none⟩) (by first | exact Nat.ne_of_lt (Nat.lt_of_lt_of_le (by have := World.block_lt_of_cell? _ _ hw563_0; first | rwa [add_block] at this | exact this) GW569.out) | (rw [add_block]; exact Nat.ne_of_lt (Nat.lt_of_lt_of_le (by have := World.block_lt_of_cell? _ _ hw563_0; first | rwa [add_block] at this | exact this) GW569.out)) | (show (Addr.add _ _).block ≠ _; rw [add_block]; exact Nat.ne_of_lt (Nat.lt_of_lt_of_le (by have := World.block_lt_of_cell? _ _ hw563_0; first | rwa [add_block] at this | exact this) GW569.out)) | (dsimp only; exact Nat.ne_of_lt (Nat.lt_of_lt_of_le (by have := World.block_lt_of_cell? _ _ hw563_0; first | rwa [add_block] at this | exact this) GW569.out))) _).trans (hHeld.2.2.1)))), ((cell_far (p := ⟨gb569, _, none⟩) (by first | exact Nat.ne_of_lt (Nat.lt_of_lt_of_le (by have := World.block_lt_of_cell? _ _ hw563_1; first | rwa [add_block] at this | exact this) GW569.out) | (rw [add_block]; exact Nat.ne_of_lt (Nat.lt_of_lt_of_le (by have := World.block_lt_of_cell? _ _ hw563_1; first | rwa [add_block] at this | exact this) GW569.out)) | (show (Addr.add _ _).block ≠ _; rw [add_block]; exact Nat.ne_of_lt (Nat.lt_of_lt_of_le (by have := World.block_lt_of_cell? _ _ hw563_1; first | rwa [add_block] at this | exact this) GW569.out)) | (dsimp only; exact Nat.ne_of_lt (Nat.lt_of_lt_of_le (by have := World.block_lt_of_cell? _ _ hw563_1; first | rwa [add_block] at this | exact this) GW569.out))) _).trans (((cell_far (p := ⟨gb569, _, none⟩) (by first | exact Nat.ne_of_lt (Nat.lt_of_lt_of_le (by have := World.block_lt_of_cell? _ _ hw563_1; first | rwa [add_block] at this | exact this) GW569.out) | (rw [add_block]; exact Nat.ne_of_lt (Nat.lt_of_lt_of_le (by have := World.block_lt_of_cell? _ _ hw563_1; first | rwa [add_block] at this | exact this) GW569.out)) | (show (Addr.add _ _).block ≠ _; rw [add_block]; exact Nat.ne_of_lt (Nat.lt_of_lt_of_le (by have := World.block_lt_of_cell? _ _ hw563_1; first | rwa [add_block] at this | exact this) GW569.out)) | (dsimp only; exact Nat.ne_of_lt (Nat.lt_of_lt_of_le (by have := World.block_lt_of_cell? _ _ hw563_1; first | rwa [add_block] at this | exact this) GW569.out))) _).trans (hHeld.2.2.2.1)))), ((cell_far (p := ⟨gb569, _, none⟩) (by first | exact Nat.ne_of_lt (Nat.lt_of_lt_of_le (by have := World.block_lt_of_cell? _ _ hw563_2; first | rwa [add_block] at this | exact this) GW569.out) | (rw [add_block]; exact Nat.ne_of_lt (Nat.lt_of_lt_of_le (by have := World.block_lt_of_cell? _ _ hw563_2; first | rwa [add_block] at this | exact this) GW569.out)) | (show (Addr.add _ _).block ≠ _; rw [add_block]; exact Nat.ne_of_lt (Nat.lt_of_lt_of_le (by have := World.block_lt_of_cell? _ _ hw563_2; first | rwa [add_block] at this | exact this) GW569.out)) | (dsimp only; exact Nat.ne_of_lt (Nat.lt_of_lt_of_le (by have := World.block_lt_of_cell? _ _ hw563_2; first | rwa [add_block] at this | exact this) GW569.out))) _).trans (((cell_far (p := ⟨gb569, _, none⟩) (by first | exact Nat.ne_of_lt (Nat.lt_of_lt_of_le (by have := World.block_lt_of_cell? _ _ hw563_2; first | rwa [add_block] at this | exact this) GW569.out) | (rw [add_block]; exact Nat.ne_of_lt (Nat.lt_of_lt_of_le (by have := World.block_lt_of_cell? _ _ hw563_2; first | rwa [add_block] at this | exact this) GW569.out)) | (show (Addr.add _ _).block ≠ _; rw [add_block]; exact Nat.ne_of_lt (Nat.lt_of_lt_of_le (by have := World.block_lt_of_cell? _ _ hw563_2; first | rwa [add_block] at this | exact this) GW569.out)) | (dsimp only; exact Nat.ne_of_lt (Nat.lt_of_lt_of_le (by have := World.block_lt_of_cell? _ _ hw563_2; first | rwa [add_block] at this | exact this) GW569.out))) _).trans (hHeld.2.2.2.2.1)))), ((cell_far (p := ⟨gb569, _, none⟩) (by first | exact Nat.ne_of_lt (Nat.lt_of_lt_of_le (by have := World.block_lt_of_cell? _ _ hw563_3; first | rwa [add_block] at this | exact this) GW569.out) | (rw [add_block]; exact Nat.ne_of_lt (Nat.lt_of_lt_of_le (by have := World.block_lt_of_cell? _ _ hw563_3; first | rwa [add_block] at this | exact this) GW569.out)) | (show (Addr.add _ _).block ≠ _; rw [add_block]; exact Nat.ne_of_lt (Nat.lt_of_lt_of_le (by have := World.block_lt_of_cell? _ _ hw563_3; first | rwa [add_block] at this | exact this) GW569.out)) | (dsimp only; exact Nat.ne_of_lt (Nat.lt_of_lt_of_le (by have := World.block_lt_of_cell? _ _ hw563_3; first | rwa [add_block] at this | exact this) GW569.out))) _).trans (((cell_far (p := ⟨gb569, _, none⟩) (by first | exact Nat.ne_of_lt (Nat.lt_of_lt_of_le (by have := World.block_lt_of_cell? _ _ hw563_3; first | rwa [add_block] at this | exact this) GW569.out) | (rw [add_block]; exact Nat.ne_of_lt (Nat.lt_of_lt_of_le (by have := World.block_lt_of_cell? _ _ hw563_3; first | rwa [add_block] at this | exact this) GW569.out)) | (show (Addr.add _ _).block ≠ _; rw [add_block]; exact Nat.ne_of_lt (Nat.lt_of_lt_of_le (by have := World.block_lt_of_cell? _ _ hw563_3; first | rwa [add_block] at this | exact this) GW569.out)) | (dsimp only; exact Nat.ne_of_lt (Nat.lt_of_lt_of_le (by have := World.block_lt_of_cell? _ _ hw563_3; first | rwa [add_block] at this | exact this) GW569.out))) _).trans (hHeld.2.2.2.2.2))))⟩ (fun hHeld => ?_)
             clear hK K
             refine pure_ (i := 11) (N := some 17) (v := ?_) (a' := ?_) #[true, true, true, true, true, true, true, true, true, true, true, true] rfl rfl (any_of HT_.out (by kernel_rfl)) (fun _ _ _ h => h) (Or.inl ⟨by rfl, ?_⟩) ?_ ?_
             rotate_left
             ·intro w'
              go_simp
              with_reducible rfl
             rotate_left
             ·simp only [Act.put, List.setIfInBounds_toArray, List.set_cons_zero, List.set_cons_succ, i64_w, i32_w]
              rfl
             refine done_ (done_of HT_.out (by kernel_rfl)) ?_
             have hnb51 := NB569_552.out; have hnc51 := NB552_569.out; have hnb52 := NB569_560.out; have hnc52 := NB560_569.out; have hcz53_0 : w47.cell? ⟨gb569, 0, none⟩ = some (.slice none 0 0) := (blk_cell BK569.out 0).trans rfl; have hcz53_1 : w47.cell? ⟨gb569, 1, none⟩ = some (.int .i64 0) := (blk_cell BK569.out 1).trans rfl; have hfz53_0 := blk_frozen BK569.out 0; have hfz53_1 := blk_frozen BK569.out 1; have hcz54_0 : w47.cell? ⟨gb560, 0, none⟩ = some (.slice Ao43 x561000_3.length co43) := (blk_cell BK560.out 0).trans rfl; have hcz54_1 : w47.cell? ⟨gb560, 1, none⟩ = some (.int .i64 x561001_3) := (blk_cell BK560.out 1).trans rfl; have hfz54_0 := blk_frozen BK560.out 0; have hfz54_1 := blk_frozen BK560.out 1
             go_upto_region 19 with (fail)
             go_cut [93] (fun v93 wc => ∃ (kq : Nat) (x93_39 : Bool), v93 = .bool x93_39 ∧ Aside0 (skiarealaw16_ChainInterrupts.j3 kq a1 l2 a3 x11_3 x12_3 x14_3 x561001_3 x93_39 t564 t567 = some r) ∧ Aside0 (kq ≤ k3) ∧ Aside0 (Kd.V k48 48 wc w.heap.size (fun k_ => k_ ≠ gb552 ∧ k_ ≠ gb560 ∧ k_ ≠ gb569) (.slice Ao48 t564.length co48) t564) ∧ Aside0 (Kd.V k48 48 wc w.heap.size (fun k_ => k_ ≠ gb552 ∧ k_ ≠ gb560 ∧ k_ ≠ gb569) (.slice Ao48 t564.length co48) t564) ∧ Aside0 (wc.heap[gb552]? = some (.cells #[(.slice A0_0 l0_0.length c0_0), .int .i64 a0_1] 24 (0, 0))) ∧ Aside0 (wc.heap[gb560]? = some (.cells #[(.slice Ao48 t564.length co48), .int .i64 t567] 24 (0, 0))) ∧ Aside0 (wc.heap[gb569]? = some (.cells #[(.slice Ao48 t564.length co48), .int .i64 t567] 24 (0, 0))) ∧ Aside0 (Below w.heap.size w wc))
             case first =>
              have H := HC40.out; clear HC40
              by_cases c55 : t568 = true
              ·subst c55
               have H1 : (skiarealaw16_ChainInterrupts.j3 k3 a1 l2 a3 x11_3 x12_3 x14_3 x561001_3 (((rd_T45 l2 x14_3).f1) != a1) t564 t567) = some r := by rw [if_pos rfl] at H; exact H
               clear H; have H := H1; clear H1; have H' := Aside0.mk H; clear H; have p570 : 0 ≤ (x14_3 : Int) := of_decide_eq_true (by first | (with_reducible assumption) | assumption)
               have q570 : x14_3 < (l2.length : Int) := of_decide_eq_true (by first | (with_reducible assumption) | assumption)
               obtain ⟨ad570, e570, hx570_0, hx570_1, hx570_2, hx570_3⟩ := at_T45 HR2.out x14_3 p570 q570
               obtain rfl : ad563 = ad570 := (by injection e570)
               have hn570_0 : ad563.block ≠ gb569 := Nat.ne_of_lt (Nat.lt_of_lt_of_le (by have := World.block_lt_of_cell? _ _ hx570_0; first | rwa [add_block] at this | exact this) GW569.out)
               have hn570_1 : ad563.block ≠ gb569 := Nat.ne_of_lt (Nat.lt_of_lt_of_le (by have := World.block_lt_of_cell? _ _ hx570_0; first | rwa [add_block] at this | exact this) GW569.out)
               have hn570_2 : ad563.block ≠ gb560 := Nat.ne_of_lt (Nat.lt_of_lt_of_le (by have := World.block_lt_of_cell? _ _ hx570_0; first | rwa [add_block] at this | exact this) GW560.out)
               have hn570_3 : ad563.block ≠ gb560 := Nat.ne_of_lt (Nat.lt_of_lt_of_le (by have := World.block_lt_of_cell? _ _ hx570_0; first | rwa [add_block] at this | exact this) GW560.out)
               replace hx570_0 := (HB.out.cell (World.block_lt_of_cell? w _ hx570_0)).trans hx570_0
               replace hx570_1 := (HB.out.cell (World.block_lt_of_cell? w _ hx570_1)).trans hx570_1
               replace hx570_2 := (HB.out.cell (World.block_lt_of_cell? w _ hx570_2)).trans hx570_2
               replace hx570_3 := (HB.out.cell (World.block_lt_of_cell? w _ hx570_3)).trans hx570_3
               replace hx570_0 := (cell_far (p := ⟨gb569, 0, none⟩) (by first | (rw [add_block]; exact hn570_0) | (show (Addr.add _ _).block ≠ _; rw [add_block]; exact hn570_0) | exact hn570_0) (.slice Ao48 t564.length co48)).trans hx570_0
               replace hx570_1 := (cell_far (p := ⟨gb569, 0, none⟩) (by first | (rw [add_block]; exact hn570_0) | (show (Addr.add _ _).block ≠ _; rw [add_block]; exact hn570_0) | exact hn570_0) (.slice Ao48 t564.length co48)).trans hx570_1
               replace hx570_2 := (cell_far (p := ⟨gb569, 0, none⟩) (by first | (rw [add_block]; exact hn570_0) | (show (Addr.add _ _).block ≠ _; rw [add_block]; exact hn570_0) | exact hn570_0) (.slice Ao48 t564.length co48)).trans hx570_2
               replace hx570_3 := (cell_far (p := ⟨gb569, 0, none⟩) (by first | (rw [add_block]; exact hn570_0) | (show (Addr.add _ _).block ≠ _; rw [add_block]; exact hn570_0) | exact hn570_0) (.slice Ao48 t564.length co48)).trans hx570_3
               replace hx570_0 := (cell_far (p := ⟨gb569, 1, none⟩) (by first | (rw [add_block]; exact hn570_1) | (show (Addr.add _ _).block ≠ _; rw [add_block]; exact hn570_1) | exact hn570_1) (.int .i64 t567)).trans hx570_0
               replace hx570_1 := (cell_far (p := ⟨gb569, 1, none⟩) (by first | (rw [add_block]; exact hn570_1) | (show (Addr.add _ _).block ≠ _; rw [add_block]; exact hn570_1) | exact hn570_1) (.int .i64 t567)).trans hx570_1
               replace hx570_2 := (cell_far (p := ⟨gb569, 1, none⟩) (by first | (rw [add_block]; exact hn570_1) | (show (Addr.add _ _).block ≠ _; rw [add_block]; exact hn570_1) | exact hn570_1) (.int .i64 t567)).trans hx570_2
               replace hx570_3 := (cell_far (p := ⟨gb569, 1, none⟩) (by first | (rw [add_block]; exact hn570_1) | (show (Addr.add _ _).block ≠ _; rw [add_block]; exact hn570_1) | exact hn570_1) (.int .i64 t567)).trans hx570_3
               replace hx570_0 := (cell_far (p := ⟨gb560, 0, none⟩) (by first | (rw [add_block]; exact hn570_2) | (show (Addr.add _ _).block ≠ _; rw [add_block]; exact hn570_2) | exact hn570_2) (.slice Ao48 t564.length co48)).trans hx570_0
               replace hx570_1 := (cell_far (p := ⟨gb560, 0, none⟩) (by first | (rw [add_block]; exact hn570_2) | (show (Addr.add _ _).block ≠ _; rw [add_block]; exact hn570_2) | exact hn570_2) (.slice Ao48 t564.length co48)).trans hx570_1
               replace hx570_2 := (cell_far (p := ⟨gb560, 0, none⟩) (by first | (rw [add_block]; exact hn570_2) | (show (Addr.add _ _).block ≠ _; rw [add_block]; exact hn570_2) | exact hn570_2) (.slice Ao48 t564.length co48)).trans hx570_2
               replace hx570_3 := (cell_far (p := ⟨gb560, 0, none⟩) (by first | (rw [add_block]; exact hn570_2) | (show (Addr.add _ _).block ≠ _; rw [add_block]; exact hn570_2) | exact hn570_2) (.slice Ao48 t564.length co48)).trans hx570_3
               replace hx570_0 := (cell_far (p := ⟨gb560, 1, none⟩) (by first | (rw [add_block]; exact hn570_3) | (show (Addr.add _ _).block ≠ _; rw [add_block]; exact hn570_3) | exact hn570_3) (.int .i64 t567)).trans hx570_0
               replace hx570_1 := (cell_far (p := ⟨gb560, 1, none⟩) (by first | (rw [add_block]; exact hn570_3) | (show (Addr.add _ _).block ≠ _; rw [add_block]; exact hn570_3) | exact hn570_3) (.int .i64 t567)).trans hx570_1
               replace hx570_2 := (cell_far (p := ⟨gb560, 1, none⟩) (by first | (rw [add_block]; exact hn570_3) | (show (Addr.add _ _).block ≠ _; rw [add_block]; exact hn570_3) | exact hn570_3) (.int .i64 t567)).trans hx570_2
               replace hx570_3 := (cell_far (p := ⟨gb560, 1, none⟩) (by first | (rw [add_block]; exact hn570_3) | (show (Addr.add _ _).block ≠ _; rw [add_block]; exact hn570_3) | exact hn570_3) (.int .i64 t567)).trans hx570_3
               clear hn570_0; clear hn570_1; clear hn570_2; clear hn570_3
               replace p570 := eq_true p570
               replace q570 := eq_true q570
               go_wp2
               go_meet
               case rel => exact ⟨_, ((((rd_T45 l2 x14_3).f1) != a1)), (by first | rfl | (simp; done) | (simp [*]; done)), H', ⟨by have := HJ6.out; have := HK2.out; have := HK3.out; first | omega | exact Nat.le_refl _⟩, ⟨by (with_reducible repeat (first | apply Kd.V_alloc | apply Kd.V_drewN | apply Kd.V_drew)); exact Kd.V_mono (Kd.V_far (p := ⟨gb560, 1, none⟩) (Kd.V_far (p := ⟨gb560, 0, none⟩) (Kd.V_far (p := ⟨gb569, 1, none⟩) (Kd.V_far (p := ⟨gb569, 0, none⟩) (Kd.V_mono (Kd.V_mono HO566.out (fun k_ hk => (⟨hk, hk.2.2⟩ : _ ∧ k_ ≠ gb569))) (fun k_ hk => (⟨hk, hk.1.2.1⟩ : _ ∧ k_ ≠ gb560))) (fun _ hk => hk.1.2) (.slice Ao48 t564.length co48)) (fun _ hk => hk.1.2) (.int .i64 t567)) (fun _ hk => hk.2) (.slice Ao48 t564.length co48)) (fun _ hk => hk.2) (.int .i64 t567)) (fun _ hk => ⟨hk.1.1.1, ⟨hk.1.1.2.1, hk.1.1.2.2⟩⟩)⟩, ⟨by (with_reducible repeat (first | apply Kd.V_alloc | apply Kd.V_drewN | apply Kd.V_drew)); exact Kd.V_mono (Kd.V_far (p := ⟨gb560, 1, none⟩) (Kd.V_far (p := ⟨gb560, 0, none⟩) (Kd.V_far (p := ⟨gb569, 1, none⟩) (Kd.V_far (p := ⟨gb569, 0, none⟩) (Kd.V_mono (Kd.V_mono HO566.out (fun k_ hk => (⟨hk, hk.2.2⟩ : _ ∧ k_ ≠ gb569))) (fun k_ hk => (⟨hk, hk.1.2.1⟩ : _ ∧ k_ ≠ gb560))) (fun _ hk => hk.1.2) (.slice Ao48 t564.length co48)) (fun _ hk => hk.1.2) (.int .i64 t567)) (fun _ hk => hk.2) (.slice Ao48 t564.length co48)) (fun _ hk => hk.2) (.int .i64 t567)) (fun _ hk => ⟨hk.1.1.1, ⟨hk.1.1.2.1, hk.1.1.2.2⟩⟩)⟩, ⟨by (with_reducible repeat (first | refine blk_drewN ?_ _ | refine blk_drew ?_ | refine blk_alloc ?_ _)); refine blk_far ?_ NB552_560.out _; (with_reducible repeat (first | refine blk_drewN ?_ _ | refine blk_drew ?_ | refine blk_alloc ?_ _)); refine blk_far ?_ NB552_560.out _; (with_reducible repeat (first | refine blk_drewN ?_ _ | refine blk_drew ?_ | refine blk_alloc ?_ _)); refine blk_far ?_ NB552_569.out _; (with_reducible repeat (first | refine blk_drewN ?_ _ | refine blk_drew ?_ | refine blk_alloc ?_ _)); refine blk_far ?_ NB552_569.out _; (with_reducible repeat (first | refine blk_drewN ?_ _ | refine blk_drew ?_ | refine blk_alloc ?_ _)); exact BK552.out⟩, ⟨by (with_reducible repeat (first | refine blk_drewN ?_ _ | refine blk_drew ?_ | refine blk_alloc ?_ _)); refine blk_put (cs := #[.slice Ao48 t564.length co48, .int .i64 x561001_3]) ?_ 1 _ rfl; (with_reducible repeat (first | refine blk_drewN ?_ _ | refine blk_drew ?_ | refine blk_alloc ?_ _)); refine blk_put (cs := #[.slice Ao43 x561000_3.length co43, .int .i64 x561001_3]) ?_ 0 _ rfl; (with_reducible repeat (first | refine blk_drewN ?_ _ | refine blk_drew ?_ | refine blk_alloc ?_ _)); refine blk_far ?_ NB560_569.out _; (with_reducible repeat (first | refine blk_drewN ?_ _ | refine blk_drew ?_ | refine blk_alloc ?_ _)); refine blk_far ?_ NB560_569.out _; (with_reducible repeat (first | refine blk_drewN ?_ _ | refine blk_drew ?_ | refine blk_alloc ?_ _)); exact BK560.out⟩, ⟨by (with_reducible repeat (first | refine blk_drewN ?_ _ | refine blk_drew ?_ | refine blk_alloc ?_ _)); refine blk_far ?_ NB569_560.out _; (with_reducible repeat (first | refine blk_drewN ?_ _ | refine blk_drew ?_ | refine blk_alloc ?_ _)); refine blk_far ?_ NB569_560.out _; (with_reducible repeat (first | refine blk_drewN ?_ _ | refine blk_drew ?_ | refine blk_alloc ?_ _)); refine blk_put (cs := #[.slice Ao48 t564.length co48, .int .i64 0]) ?_ 1 _ rfl; (with_reducible repeat (first | refine blk_drewN ?_ _ | refine blk_drew ?_ | refine blk_alloc ?_ _)); refine blk_put (cs := #[.slice none 0 0, .int .i64 0]) ?_ 0 _ rfl; (with_reducible repeat (first | refine blk_drewN ?_ _ | refine blk_drew ?_ | refine blk_alloc ?_ _)); exact BK569.out⟩, ⟨by repeat (first | (with_reducible first | exact HB.out | apply below_alloc | apply pw_below_drewN | apply below_drew1 | refine below_set ?_ GE552.out | refine below_set ?_ GE560.out | refine below_set ?_ GE569.out) | exact HB.out)⟩⟩
              ·replace c55 := Bool.eq_false_iff.mpr c55
               subst c55; have H1 : (skiarealaw16_ChainInterrupts.j3 k3 a1 l2 a3 x11_3 x12_3 x14_3 x561001_3 true t564 t567) = some r := by rw [if_neg (show ¬ (false = true) by decide)] at H; exact H
               clear H; have H := H1; clear H1; have H' := Aside0.mk H; clear H
               go_wp2
               go_meet
               case rel => exact ⟨_, (true), (by first | rfl | (simp; done) | (simp [*]; done)), H', ⟨by have := HJ6.out; have := HK2.out; have := HK3.out; first | omega | exact Nat.le_refl _⟩, ⟨by (with_reducible repeat (first | apply Kd.V_alloc | apply Kd.V_drewN | apply Kd.V_drew)); exact Kd.V_mono (Kd.V_far (p := ⟨gb560, 1, none⟩) (Kd.V_far (p := ⟨gb560, 0, none⟩) (Kd.V_far (p := ⟨gb569, 1, none⟩) (Kd.V_far (p := ⟨gb569, 0, none⟩) (Kd.V_mono (Kd.V_mono HO566.out (fun k_ hk => (⟨hk, hk.2.2⟩ : _ ∧ k_ ≠ gb569))) (fun k_ hk => (⟨hk, hk.1.2.1⟩ : _ ∧ k_ ≠ gb560))) (fun _ hk => hk.1.2) (.slice Ao48 t564.length co48)) (fun _ hk => hk.1.2) (.int .i64 t567)) (fun _ hk => hk.2) (.slice Ao48 t564.length co48)) (fun _ hk => hk.2) (.int .i64 t567)) (fun _ hk => ⟨hk.1.1.1, ⟨hk.1.1.2.1, hk.1.1.2.2⟩⟩)⟩, ⟨by (with_reducible repeat (first | apply Kd.V_alloc | apply Kd.V_drewN | apply Kd.V_drew)); exact Kd.V_mono (Kd.V_far (p := ⟨gb560, 1, none⟩) (Kd.V_far (p := ⟨gb560, 0, none⟩) (Kd.V_far (p := ⟨gb569, 1, none⟩) (Kd.V_far (p := ⟨gb569, 0, none⟩) (Kd.V_mono (Kd.V_mono HO566.out (fun k_ hk => (⟨hk, hk.2.2⟩ : _ ∧ k_ ≠ gb569))) (fun k_ hk => (⟨hk, hk.1.2.1⟩ : _ ∧ k_ ≠ gb560))) (fun _ hk => hk.1.2) (.slice Ao48 t564.length co48)) (fun _ hk => hk.1.2) (.int .i64 t567)) (fun _ hk => hk.2) (.slice Ao48 t564.length co48)) (fun _ hk => hk.2) (.int .i64 t567)) (fun _ hk => ⟨hk.1.1.1, ⟨hk.1.1.2.1, hk.1.1.2.2⟩⟩)⟩, ⟨by (with_reducible repeat (first | refine blk_drewN ?_ _ | refine blk_drew ?_ | refine blk_alloc ?_ _)); refine blk_far ?_ NB552_560.out _; (with_reducible repeat (first | refine blk_drewN ?_ _ | refine blk_drew ?_ | refine blk_alloc ?_ _)); refine blk_far ?_ NB552_560.out _; (with_reducible repeat (first | refine blk_drewN ?_ _ | refine blk_drew ?_ | refine blk_alloc ?_ _)); refine blk_far ?_ NB552_569.out _; (with_reducible repeat (first | refine blk_drewN ?_ _ | refine blk_drew ?_ | refine blk_alloc ?_ _)); refine blk_far ?_ NB552_569.out _; (with_reducible repeat (first | refine blk_drewN ?_ _ | refine blk_drew ?_ | refine blk_alloc ?_ _)); exact BK552.out⟩, ⟨by (with_reducible repeat (first | refine blk_drewN ?_ _ | refine blk_drew ?_ | refine blk_alloc ?_ _)); refine blk_put (cs := #[.slice Ao48 t564.length co48, .int .i64 x561001_3]) ?_ 1 _ rfl; (with_reducible repeat (first | refine blk_drewN ?_ _ | refine blk_drew ?_ | refine blk_alloc ?_ _)); refine blk_put (cs := #[.slice Ao43 x561000_3.length co43, .int .i64 x561001_3]) ?_ 0 _ rfl; (with_reducible repeat (first | refine blk_drewN ?_ _ | refine blk_drew ?_ | refine blk_alloc ?_ _)); refine blk_far ?_ NB560_569.out _; (with_reducible repeat (first | refine blk_drewN ?_ _ | refine blk_drew ?_ | refine blk_alloc ?_ _)); refine blk_far ?_ NB560_569.out _; (with_reducible repeat (first | refine blk_drewN ?_ _ | refine blk_drew ?_ | refine blk_alloc ?_ _)); exact BK560.out⟩, ⟨by (with_reducible repeat (first | refine blk_drewN ?_ _ | refine blk_drew ?_ | refine blk_alloc ?_ _)); refine blk_far ?_ NB569_560.out _; (with_reducible repeat (first | refine blk_drewN ?_ _ | refine blk_drew ?_ | refine blk_alloc ?_ _)); refine blk_far ?_ NB569_560.out _; (with_reducible repeat (first | refine blk_drewN ?_ _ | refine blk_drew ?_ | refine blk_alloc ?_ _)); refine blk_put (cs := #[.slice Ao48 t564.length co48, .int .i64 0]) ?_ 1 _ rfl; (with_reducible repeat (first | refine blk_drewN ?_ _ | refine blk_drew ?_ | refine blk_alloc ?_ _)); refine blk_put (cs := #[.slice none 0 0, .int .i64 0]) ?_ 0 _ rfl; (with_reducible repeat (first | refine blk_drewN ?_ _ | refine blk_drew ?_ | refine blk_alloc ?_ _)); exact BK569.out⟩, ⟨by repeat (first | (with_reducible first | exact HB.out | apply below_alloc | apply pw_below_drewN | apply below_drew1 | refine below_set ?_ GE552.out | refine below_set ?_ GE560.out | refine below_set ?_ GE569.out) | exact HB.out)⟩⟩
             case rest =>
              clear HC40
              try clear c1
              try clear c2
              try clear p2
              try clear c3
              try clear c4
              try clear c5
              try clear p5
              try clear q5
              try clear hx5
              try clear c6
              try clear p6
              try clear c10
              try clear c11
              try clear c11b0
              try clear c11b1
              try clear c12
              try clear c16
              try clear c18
              try clear c23
              try clear c25
              try clear c25b0
              try clear c26
              try clear c27
              try clear c29
              try clear c29b0
              try clear c30
              try clear c30b0
              try clear c30b1
              try clear c31
              try clear c33
              try clear c35
              try clear c37
              try clear c37b0
              try clear c38
              try clear c38b0
              try clear c41
              try clear c51
              try clear c52
              try clear c55
              try clear hcz12_0
              try clear hcz12_1
              try clear hcz14_0
              try clear hcz14_1
              try clear hcz19_0
              try clear hcz19_1
              try clear hcz24_0
              try clear hcz24_1
              try clear hcz28_0
              try clear hcz28_1
              try clear hcz32_0
              try clear hcz32_1
              try clear hcz34_0
              try clear hcz34_1
              try clear hcz36_0
              try clear hcz36_1
              try clear hcz42_0
              try clear hcz42_1
              try clear hcz53_0
              try clear hcz53_1
              try clear hcz54_0
              try clear hcz54_1
              try clear hfz12_0
              try clear hfz12_1
              try clear hfz14_0
              try clear hfz14_1
              try clear hfz19_0
              try clear hfz19_1
              try clear hfz24_0
              try clear hfz24_1
              try clear hfz28_0
              try clear hfz28_1
              try clear hfz32_0
              try clear hfz32_1
              try clear hfz34_0
              try clear hfz34_1
              try clear hfz36_0
              try clear hfz36_1
              try clear hfz42_0
              try clear hfz42_1
              try clear hfz53_0
              try clear hfz53_1
              try clear hfz54_0
              try clear hfz54_1
              try clear hx561_0
              try clear hx561_1
              try clear hx561_2
              try clear hx561_3
              try clear hx561_4
              try clear hx562_0
              try clear hx562_1
              try clear hx562_2
              try clear hx562_3
              try clear hx562_4
              try clear hx563_0
              try clear hx563_1
              try clear hx563_2
              try clear hx563_3
              try clear hx570_0
              try clear hx570_1
              try clear hx570_2
              try clear hx570_3
              try clear p2
              try clear p5
              try clear p561
              try clear p562
              try clear p563
              try clear p570
              try clear p6
              try clear q5
              try clear q561
              try clear q562
              try clear q563
              try clear q570
              obtain ⟨kq, x93_39, rfl, HA, HJ39, HO_561000, HO_570000, BK552, BK560, BK569, HB⟩ := hcut
              cases kq with
              | zero => exact absurd HA.out (by simp [skiarealaw16_ChainInterrupts.j3])
              | succ kj39 =>
               have H := HA.out; clear HA
               simp only [skiarealaw16_ChainInterrupts.j3] at H
               by_cases c56 : x93_39 = true
               ·subst c56
                have H1 : (skiarealaw16_ChainInterrupts.l1 kj39 a1 l2 a3 x11_3 x12_3 (wrap64 (x14_3 + 1)) t564 t567) = some r := by rw [if_pos rfl] at H; exact H
                clear H; have H := H1; clear H1; have H' := Aside0.mk H; clear H
                go_wp2
                go_roundg kj39
                case measure => have := HJ6.out; have := HK2.out; have := HK3.out; have := HJ39.out; omega
                case rel => exact ⟨(x11_3), (x12_3), (wrap64 (x14_3 + 1)), (t564), (t567), (.slice Ao48 t564.length co48), (by first | rfl | (simp; done) | (simp [*]; done)), (by first | rfl | (simp; done) | (simp [*]; done)), (by first | rfl | (simp; done) | (simp [*]; done)), H', ⟨by have := HJ6.out; have := HK2.out; have := HK3.out; have := HJ39.out; omega⟩, ⟨by (with_reducible repeat (first | apply Kd.V_alloc | apply Kd.V_drewN | apply Kd.V_drew)); exact Kd.V_mono HO_561000.out (fun _ hk => ⟨hk.1, hk.2.1⟩)⟩, ⟨by (with_reducible repeat (first | refine blk_drewN ?_ _ | refine blk_drew ?_ | refine blk_alloc ?_ _)); exact BK552.out⟩, ⟨by (with_reducible repeat (first | refine blk_drewN ?_ _ | refine blk_drew ?_ | refine blk_alloc ?_ _)); exact BK560.out⟩, ⟨by repeat (first | (with_reducible first | exact HB.out | apply below_alloc | apply pw_below_drewN | apply below_drew1 | refine below_set ?_ GE552.out | refine below_set ?_ GE560.out | refine below_set ?_ GE569.out) | exact HB.out)⟩⟩
               ·replace c56 := Bool.eq_false_iff.mpr c56
                subst c56; have H1 : (if 0 ≤ x14_3 then (if x14_3 < (l2.length : Int) then (if ((rd_T45 l2 x14_3).f0) = 0 then (skiarealaw16_ChainInterrupts.l1 kj39 a1 l2 a3 false x12_3 (wrap64 (x14_3 + 1)) t564 t567) else (if ((rd_T45 l2 x14_3).f0) = 2 then (skiarealaw16_ChainInterrupts.l1 kj39 a1 l2 a3 true x12_3 (wrap64 (x14_3 + 1)) t564 t567) else (if ((rd_T45 l2 x14_3).f0) = 4 then (if x561001_3 = 0 then (none) else (if x561001_3 = ((rd_T45 l2 x14_3).f2) then (if x12_3 = true then (skiarealaw16_ChainInterrupts.l1 kj39 a1 l2 a3 x11_3 true (wrap64 (x14_3 + 1)) t564 t567) else (skiarealaw16_ChainInterrupts.l1 kj39 a1 l2 a3 x11_3 (decide (a3 < ((rd_T45 l2 x14_3).f3))) (wrap64 (x14_3 + 1)) t564 t567)) else (none))) else (skiarealaw16_ChainInterrupts.l1 kj39 a1 l2 a3 x11_3 x12_3 (wrap64 (x14_3 + 1)) t564 t567)))) else (none)) else (none)) = some r := by rw [if_neg (show ¬ (false = true) by decide)] at H; exact H
                clear H; have H := H1; clear H1
                by_cases c57 : 0 ≤ x14_3
                ·rw [if_pos c57] at H
                 have c57b0 : decide (0 ≤ x14_3) = true := decide_eq_true c57; clear c57
                 by_cases c58 : x14_3 < (l2.length : Int)
                 ·rw [if_pos c58] at H
                  have c58b0 : decide (x14_3 < (l2.length : Int)) = true := decide_eq_true c58; clear c58
                  by_cases c59 : ((rd_T45 l2 x14_3).f0) = 0
                  ·rw [if_pos c59] at H
                   have c59b0 : (((rd_T45 l2 x14_3).f0) == 0) = true := beq_iff_eq.mpr c59; have c59b1 : (((rd_T45 l2 x14_3).f0) != 0) = false := bne_eq_false_iff_eq.mpr c59; clear c59; have H' := Aside0.mk H; clear H; have p571 : 0 ≤ (x14_3 : Int) := of_decide_eq_true (by first | (with_reducible assumption) | assumption)
                   have q571 : x14_3 < (l2.length : Int) := of_decide_eq_true (by first | (with_reducible assumption) | assumption)
                   obtain ⟨ad571, e571, hx571_0, hx571_1, hx571_2, hx571_3⟩ := at_T45 HR2.out x14_3 p571 q571
                   obtain rfl : ad563 = ad571 := (by injection e571)
                   replace hx571_0 := (HB.out.cell (World.block_lt_of_cell? w _ hx571_0)).trans hx571_0
                   replace hx571_1 := (HB.out.cell (World.block_lt_of_cell? w _ hx571_1)).trans hx571_1
                   replace hx571_2 := (HB.out.cell (World.block_lt_of_cell? w _ hx571_2)).trans hx571_2
                   replace hx571_3 := (HB.out.cell (World.block_lt_of_cell? w _ hx571_3)).trans hx571_3
                   replace p571 := eq_true p571
                   replace q571 := eq_true q571
                   go_wp2
                   go_roundg kj39
                   case measure => have := HJ6.out; have := HK2.out; have := HK3.out; have := HJ39.out; omega
                   case rel => exact ⟨(false), (x12_3), (wrap64 (x14_3 + 1)), (t564), (t567), (.slice Ao48 t564.length co48), (by first | rfl | (simp; done) | (simp [*]; done)), (by first | rfl | (simp; done) | (simp [*]; done)), (by first | rfl | (simp; done) | (simp [*]; done)), H', ⟨by have := HJ6.out; have := HK2.out; have := HK3.out; have := HJ39.out; omega⟩, ⟨by (with_reducible repeat (first | apply Kd.V_alloc | apply Kd.V_drewN | apply Kd.V_drew)); exact Kd.V_mono HO_561000.out (fun _ hk => ⟨hk.1, hk.2.1⟩)⟩, ⟨by (with_reducible repeat (first | refine blk_drewN ?_ _ | refine blk_drew ?_ | refine blk_alloc ?_ _)); exact BK552.out⟩, ⟨by (with_reducible repeat (first | refine blk_drewN ?_ _ | refine blk_drew ?_ | refine blk_alloc ?_ _)); exact BK560.out⟩, ⟨by repeat (first | (with_reducible first | exact HB.out | apply below_alloc | apply pw_below_drewN | apply below_drew1 | refine below_set ?_ GE552.out | refine below_set ?_ GE560.out | refine below_set ?_ GE569.out) | exact HB.out)⟩⟩
                  ·rw [if_neg c59] at H
                   have c59b0 : (((rd_T45 l2 x14_3).f0) == 0) = false := beq_eq_false_iff_ne.mpr c59; have c59b1 : (((rd_T45 l2 x14_3).f0) != 0) = true := bne_iff_ne.mpr c59
                   by_cases c60 : ((rd_T45 l2 x14_3).f0) = 2
                   ·rw [if_pos c60] at H
                    have c60b0 : (((rd_T45 l2 x14_3).f0) == 2) = true := beq_iff_eq.mpr c60; have c60b1 : (((rd_T45 l2 x14_3).f0) != 2) = false := bne_eq_false_iff_eq.mpr c60; clear c60; have H' := Aside0.mk H; clear H; have p571 : 0 ≤ (x14_3 : Int) := of_decide_eq_true (by first | (with_reducible assumption) | assumption)
                    have q571 : x14_3 < (l2.length : Int) := of_decide_eq_true (by first | (with_reducible assumption) | assumption)
                    obtain ⟨ad571, e571, hx571_0, hx571_1, hx571_2, hx571_3⟩ := at_T45 HR2.out x14_3 p571 q571
                    obtain rfl : ad563 = ad571 := (by injection e571)
                    replace hx571_0 := (HB.out.cell (World.block_lt_of_cell? w _ hx571_0)).trans hx571_0
                    replace hx571_1 := (HB.out.cell (World.block_lt_of_cell? w _ hx571_1)).trans hx571_1
                    replace hx571_2 := (HB.out.cell (World.block_lt_of_cell? w _ hx571_2)).trans hx571_2
                    replace hx571_3 := (HB.out.cell (World.block_lt_of_cell? w _ hx571_3)).trans hx571_3
                    replace p571 := eq_true p571
                    replace q571 := eq_true q571
                    go_wp2
                    go_roundg kj39
                    case measure => have := HJ6.out; have := HK2.out; have := HK3.out; have := HJ39.out; omega
                    case rel => exact ⟨(true), (x12_3), (wrap64 (x14_3 + 1)), (t564), (t567), (.slice Ao48 t564.length co48), (by first | rfl | (simp; done) | (simp [*]; done)), (by first | rfl | (simp; done) | (simp [*]; done)), (by first | rfl | (simp; done) | (simp [*]; done)), H', ⟨by have := HJ6.out; have := HK2.out; have := HK3.out; have := HJ39.out; omega⟩, ⟨by (with_reducible repeat (first | apply Kd.V_alloc | apply Kd.V_drewN | apply Kd.V_drew)); exact Kd.V_mono HO_561000.out (fun _ hk => ⟨hk.1, hk.2.1⟩)⟩, ⟨by (with_reducible repeat (first | refine blk_drewN ?_ _ | refine blk_drew ?_ | refine blk_alloc ?_ _)); exact BK552.out⟩, ⟨by (with_reducible repeat (first | refine blk_drewN ?_ _ | refine blk_drew ?_ | refine blk_alloc ?_ _)); exact BK560.out⟩, ⟨by repeat (first | (with_reducible first | exact HB.out | apply below_alloc | apply pw_below_drewN | apply below_drew1 | refine below_set ?_ GE552.out | refine below_set ?_ GE560.out | refine below_set ?_ GE569.out) | exact HB.out)⟩⟩
                   ·rw [if_neg c60] at H
                    have c60b0 : (((rd_T45 l2 x14_3).f0) == 2) = false := beq_eq_false_iff_ne.mpr c60; have c60b1 : (((rd_T45 l2 x14_3).f0) != 2) = true := bne_iff_ne.mpr c60
                    by_cases c61 : ((rd_T45 l2 x14_3).f0) = 4
                    ·rw [if_pos c61] at H
                     have c61b0 : (((rd_T45 l2 x14_3).f0) == 4) = true := beq_iff_eq.mpr c61; have c61b1 : (((rd_T45 l2 x14_3).f0) != 4) = false := bne_eq_false_iff_eq.mpr c61; clear c61
                     by_cases c62 : x561001_3 = 0
                     ·rw [if_pos c62] at H
                      exact absurd H (by simp)
                     ·rw [if_neg c62] at H
                      have c62b0 : (x561001_3 == 0) = false := beq_eq_false_iff_ne.mpr c62; have c62b1 : (x561001_3 != 0) = true := bne_iff_ne.mpr c62
                      by_cases c63 : x561001_3 = ((rd_T45 l2 x14_3).f2)
                      ·rw [if_pos c63] at H
                       have c63b0 : (x561001_3 == ((rd_T45 l2 x14_3).f2)) = true := beq_iff_eq.mpr c63; have c63b1 : (x561001_3 != ((rd_T45 l2 x14_3).f2)) = false := bne_eq_false_iff_eq.mpr c63; clear c63
                       by_cases c64 : x12_3 = true
                       ·subst c64
                        have H1 : (skiarealaw16_ChainInterrupts.l1 kj39 a1 l2 a3 x11_3 true (wrap64 (x14_3 + 1)) t564 t567) = some r := by rw [if_pos rfl] at H; exact H
                        clear H; have H := H1; clear H1; have H' := Aside0.mk H; clear H; have p571 : 0 ≤ (x14_3 : Int) := of_decide_eq_true (by first | (with_reducible assumption) | assumption)
                        have q571 : x14_3 < (l2.length : Int) := of_decide_eq_true (by first | (with_reducible assumption) | assumption)
                        obtain ⟨ad571, e571, hx571_0, hx571_1, hx571_2, hx571_3⟩ := at_T45 HR2.out x14_3 p571 q571
                        obtain rfl : ad563 = ad571 := (by injection e571)
                        replace hx571_0 := (HB.out.cell (World.block_lt_of_cell? w _ hx571_0)).trans hx571_0
                        replace hx571_1 := (HB.out.cell (World.block_lt_of_cell? w _ hx571_1)).trans hx571_1
                        replace hx571_2 := (HB.out.cell (World.block_lt_of_cell? w _ hx571_2)).trans hx571_2
                        replace hx571_3 := (HB.out.cell (World.block_lt_of_cell? w _ hx571_3)).trans hx571_3
                        replace p571 := eq_true p571
                        replace q571 := eq_true q571
                        have p572 : 0 ≤ (x14_3 : Int) := of_decide_eq_true (by first | (with_reducible assumption) | assumption)
                        have q572 : x14_3 < (l2.length : Int) := of_decide_eq_true (by first | (with_reducible assumption) | assumption)
                        obtain ⟨ad572, e572, hx572_0, hx572_1, hx572_2, hx572_3⟩ := at_T45 HR2.out x14_3 p572 q572
                        obtain rfl : ad563 = ad572 := (by injection e572)
                        replace hx572_0 := (HB.out.cell (World.block_lt_of_cell? w _ hx572_0)).trans hx572_0
                        replace hx572_1 := (HB.out.cell (World.block_lt_of_cell? w _ hx572_1)).trans hx572_1
                        replace hx572_2 := (HB.out.cell (World.block_lt_of_cell? w _ hx572_2)).trans hx572_2
                        replace hx572_3 := (HB.out.cell (World.block_lt_of_cell? w _ hx572_3)).trans hx572_3
                        replace p572 := eq_true p572
                        replace q572 := eq_true q572
                        go_wp2
                        go_roundg kj39
                        case measure => have := HJ6.out; have := HK2.out; have := HK3.out; have := HJ39.out; omega
                        case rel => exact ⟨(x11_3), (true), (wrap64 (x14_3 + 1)), (t564), (t567), (.slice Ao48 t564.length co48), (by first | rfl | (simp; done) | (simp [*]; done)), (by first | rfl | (simp; done) | (simp [*]; done)), (by first | rfl | (simp; done) | (simp [*]; done)), H', ⟨by have := HJ6.out; have := HK2.out; have := HK3.out; have := HJ39.out; omega⟩, ⟨by (with_reducible repeat (first | apply Kd.V_alloc | apply Kd.V_drewN | apply Kd.V_drew)); exact Kd.V_mono HO_561000.out (fun _ hk => ⟨hk.1, hk.2.1⟩)⟩, ⟨by (with_reducible repeat (first | refine blk_drewN ?_ _ | refine blk_drew ?_ | refine blk_alloc ?_ _)); exact BK552.out⟩, ⟨by (with_reducible repeat (first | refine blk_drewN ?_ _ | refine blk_drew ?_ | refine blk_alloc ?_ _)); exact BK560.out⟩, ⟨by repeat (first | (with_reducible first | exact HB.out | apply below_alloc | apply pw_below_drewN | apply below_drew1 | refine below_set ?_ GE552.out | refine below_set ?_ GE560.out | refine below_set ?_ GE569.out) | exact HB.out)⟩⟩
                       ·replace c64 := Bool.eq_false_iff.mpr c64
                        subst c64; have H1 : (skiarealaw16_ChainInterrupts.l1 kj39 a1 l2 a3 x11_3 (decide (a3 < ((rd_T45 l2 x14_3).f3))) (wrap64 (x14_3 + 1)) t564 t567) = some r := by rw [if_neg (show ¬ (false = true) by decide)] at H; exact H
                        clear H; have H := H1; clear H1; have H' := Aside0.mk H; clear H; have p571 : 0 ≤ (x14_3 : Int) := of_decide_eq_true (by first | (with_reducible assumption) | assumption)
                        have q571 : x14_3 < (l2.length : Int) := of_decide_eq_true (by first | (with_reducible assumption) | assumption)
                        obtain ⟨ad571, e571, hx571_0, hx571_1, hx571_2, hx571_3⟩ := at_T45 HR2.out x14_3 p571 q571
                        obtain rfl : ad563 = ad571 := (by injection e571)
                        replace hx571_0 := (HB.out.cell (World.block_lt_of_cell? w _ hx571_0)).trans hx571_0
                        replace hx571_1 := (HB.out.cell (World.block_lt_of_cell? w _ hx571_1)).trans hx571_1
                        replace hx571_2 := (HB.out.cell (World.block_lt_of_cell? w _ hx571_2)).trans hx571_2
                        replace hx571_3 := (HB.out.cell (World.block_lt_of_cell? w _ hx571_3)).trans hx571_3
                        replace p571 := eq_true p571
                        replace q571 := eq_true q571
                        have p572 : 0 ≤ (x14_3 : Int) := of_decide_eq_true (by first | (with_reducible assumption) | assumption)
                        have q572 : x14_3 < (l2.length : Int) := of_decide_eq_true (by first | (with_reducible assumption) | assumption)
                        obtain ⟨ad572, e572, hx572_0, hx572_1, hx572_2, hx572_3⟩ := at_T45 HR2.out x14_3 p572 q572
                        obtain rfl : ad563 = ad572 := (by injection e572)
                        replace hx572_0 := (HB.out.cell (World.block_lt_of_cell? w _ hx572_0)).trans hx572_0
                        replace hx572_1 := (HB.out.cell (World.block_lt_of_cell? w _ hx572_1)).trans hx572_1
                        replace hx572_2 := (HB.out.cell (World.block_lt_of_cell? w _ hx572_2)).trans hx572_2
                        replace hx572_3 := (HB.out.cell (World.block_lt_of_cell? w _ hx572_3)).trans hx572_3
                        replace p572 := eq_true p572
                        replace q572 := eq_true q572
                        have p573 : 0 ≤ (x14_3 : Int) := of_decide_eq_true (by first | (with_reducible assumption) | assumption)
                        have q573 : x14_3 < (l2.length : Int) := of_decide_eq_true (by first | (with_reducible assumption) | assumption)
                        obtain ⟨ad573, e573, hx573_0, hx573_1, hx573_2, hx573_3⟩ := at_T45 HR2.out x14_3 p573 q573
                        obtain rfl : ad563 = ad573 := (by injection e573)
                        replace hx573_0 := (HB.out.cell (World.block_lt_of_cell? w _ hx573_0)).trans hx573_0
                        replace hx573_1 := (HB.out.cell (World.block_lt_of_cell? w _ hx573_1)).trans hx573_1
                        replace hx573_2 := (HB.out.cell (World.block_lt_of_cell? w _ hx573_2)).trans hx573_2
                        replace hx573_3 := (HB.out.cell (World.block_lt_of_cell? w _ hx573_3)).trans hx573_3
                        replace p573 := eq_true p573
                        replace q573 := eq_true q573
                        go_wp2
                        go_roundg kj39
                        case measure => have := HJ6.out; have := HK2.out; have := HK3.out; have := HJ39.out; omega
                        case rel => exact ⟨(x11_3), (decide (a3 < ((rd_T45 l2 x14_3).f3))), (wrap64 (x14_3 + 1)), (t564), (t567), (.slice Ao48 t564.length co48), (by first | rfl | (simp; done) | (simp [*]; done)), (by first | rfl | (simp; done) | (simp [*]; done)), (by first | rfl | (simp; done) | (simp [*]; done)), H', ⟨by have := HJ6.out; have := HK2.out; have := HK3.out; have := HJ39.out; omega⟩, ⟨by (with_reducible repeat (first | apply Kd.V_alloc | apply Kd.V_drewN | apply Kd.V_drew)); exact Kd.V_mono HO_561000.out (fun _ hk => ⟨hk.1, hk.2.1⟩)⟩, ⟨by (with_reducible repeat (first | refine blk_drewN ?_ _ | refine blk_drew ?_ | refine blk_alloc ?_ _)); exact BK552.out⟩, ⟨by (with_reducible repeat (first | refine blk_drewN ?_ _ | refine blk_drew ?_ | refine blk_alloc ?_ _)); exact BK560.out⟩, ⟨by repeat (first | (with_reducible first | exact HB.out | apply below_alloc | apply pw_below_drewN | apply below_drew1 | refine below_set ?_ GE552.out | refine below_set ?_ GE560.out | refine below_set ?_ GE569.out) | exact HB.out)⟩⟩
                      ·rw [if_neg c63] at H
                       exact absurd H (by simp)
                    ·rw [if_neg c61] at H
                     have c61b0 : (((rd_T45 l2 x14_3).f0) == 4) = false := beq_eq_false_iff_ne.mpr c61; have c61b1 : (((rd_T45 l2 x14_3).f0) != 4) = true := bne_iff_ne.mpr c61; have H' := Aside0.mk H; clear H; have p571 : 0 ≤ (x14_3 : Int) := of_decide_eq_true (by first | (with_reducible assumption) | assumption)
                     have q571 : x14_3 < (l2.length : Int) := of_decide_eq_true (by first | (with_reducible assumption) | assumption)
                     obtain ⟨ad571, e571, hx571_0, hx571_1, hx571_2, hx571_3⟩ := at_T45 HR2.out x14_3 p571 q571
                     obtain rfl : ad563 = ad571 := (by injection e571)
                     replace hx571_0 := (HB.out.cell (World.block_lt_of_cell? w _ hx571_0)).trans hx571_0
                     replace hx571_1 := (HB.out.cell (World.block_lt_of_cell? w _ hx571_1)).trans hx571_1
                     replace hx571_2 := (HB.out.cell (World.block_lt_of_cell? w _ hx571_2)).trans hx571_2
                     replace hx571_3 := (HB.out.cell (World.block_lt_of_cell? w _ hx571_3)).trans hx571_3
                     replace p571 := eq_true p571
                     replace q571 := eq_true q571
                     go_wp2
                     go_roundg kj39
                     case measure => have := HJ6.out; have := HK2.out; have := HK3.out; have := HJ39.out; omega
                     case rel => exact ⟨(x11_3), (x12_3), (wrap64 (x14_3 + 1)), (t564), (t567), (.slice Ao48 t564.length co48), (by first | rfl | (simp; done) | (simp [*]; done)), (by first | rfl | (simp; done) | (simp [*]; done)), (by first | rfl | (simp; done) | (simp [*]; done)), H', ⟨by have := HJ6.out; have := HK2.out; have := HK3.out; have := HJ39.out; omega⟩, ⟨by (with_reducible repeat (first | apply Kd.V_alloc | apply Kd.V_drewN | apply Kd.V_drew)); exact Kd.V_mono HO_561000.out (fun _ hk => ⟨hk.1, hk.2.1⟩)⟩, ⟨by (with_reducible repeat (first | refine blk_drewN ?_ _ | refine blk_drew ?_ | refine blk_alloc ?_ _)); exact BK552.out⟩, ⟨by (with_reducible repeat (first | refine blk_drewN ?_ _ | refine blk_drew ?_ | refine blk_alloc ?_ _)); exact BK560.out⟩, ⟨by repeat (first | (with_reducible first | exact HB.out | apply below_alloc | apply pw_below_drewN | apply below_drew1 | refine below_set ?_ GE552.out | refine below_set ?_ GE560.out | refine below_set ?_ GE569.out) | exact HB.out)⟩⟩
                 ·rw [if_neg c58] at H
                  exact absurd H (by simp)
                ·rw [if_neg c57] at H
                 exact absurd H (by simp)
            ·rw [if_neg c38] at H
             exact absurd H (by simp)
           ·rw [if_neg c37] at H
            have c37b0 : decide (x14_3 < (l2.length : Int)) = false := decide_eq_false c37; clear c37
            replace H := Option.bind_eq_some_iff.mp H
            obtain ⟨t574, A650, H⟩ := H
            replace H : ((skiarealaw16_has.f k3 t574 a1).bind fun t577 => (if t577 = true then (some (!x11_3)) else (if x11_3 = true then (some true) else (some x12_3)))) = some r := H
            have A65 := Aside0.mk A650; clear A650
            replace H := Option.bind_eq_some_iff.mp H
            obtain ⟨t577, A660, H⟩ := H
            replace H : (if t577 = true then (some (!x11_3)) else (if x11_3 = true then (some true) else (some x12_3))) = some r := H
            have A66 := Aside0.mk A660; clear A660
            by_cases c67 : t577 = true
            ·subst c67
             have H1 : (some (!x11_3)) = some r := by rw [if_pos rfl] at H; exact H
             clear H; have H := H1; clear H1
             obtain rfl := Option.some.inj H
             have hnb68 := NB560_552.out; have hnc68 := NB552_560.out; have hcz69_0 : wr.cell? ⟨gb560, 0, none⟩ = some (u561000) := (blk_cell BK560.out 0).trans rfl; have hcz69_1 : wr.cell? ⟨gb560, 1, none⟩ = some (.int .i64 x561001_3) := (blk_cell BK560.out 1).trans rfl; have hfz69_0 := blk_frozen BK560.out 0; have hfz69_1 := blk_frozen BK560.out 1
             obtain ⟨Ao70, co70, eo70⟩ := Kd.V_slice HO_561000.out
             subst eo70
             go_wp2_with (first | ((with_reducible refine gate_callee (f := 28) rfl ?_); refine goesL_ (some 128) rfl rfl Try.func28 (by kernel_rfl) rfl #[.agg #[.slice Ao70 x561000_3.length co70, .int .i64 x561001_3], .int .i64 a3] rfl (by (try simp only [List.map_toArray, List.map_cons, List.map_nil]); first | done | rfl | (simp only [List.length_drop, List.length_take]; rfl)) ?_; (with_reducible refine (chain_Faults.calls k3 _ _ x561000_3 x561001_3 a3 t574 _ ?side1 ?side2 A65.out).mono ?_); (case side1 => repeat (first | exact (Kd.V_reads' HO_561000.out).2.2 | (with_reducible refine Kd.C_alloc ?_ _) | (with_reducible refine Kd.C_drewN ?_ _) | (with_reducible refine Kd.C_drew ?_))); (case side2 => exact (Kd.V_reads' HO_561000.out).2.1); rintro e w71 ⟨v575, rfl, ho0, hb⟩; refine ⟨_, rfl, ?_⟩; have n0_ := Aside0.mk (Kd.V_elder' (by (with_reducible repeat (first | apply Kd.V_alloc | apply Kd.V_drewN | apply Kd.V_drew)); exact HO_561000.out) (Kd.R_base ho0) hb); have n1_ := Aside0.mk (Kd.R_lower ho0 (below_size (by repeat (first | (with_reducible first | exact HB.out | apply below_alloc | apply pw_below_drewN | apply below_drew1 | refine below_set ?_ GE552.out | refine below_set ?_ GE560.out) | exact HB.out)))); have n2_ := Aside0.mk (bb_ BK552.out hb); have n3_ := Aside0.mk (bb_ BK560.out hb); have n4_ := Aside0.mk (below_step (by repeat (first | (with_reducible first | exact HB.out | apply below_alloc | apply pw_below_drewN | apply below_drew1 | refine below_set ?_ GE552.out | refine below_set ?_ GE560.out) | exact HB.out)) hb); clear HO_561000; clear BK552; clear BK560; clear HB; have HO_561000 := n0_; have HO576 := n1_; have BK552 := n2_; have BK560 := n3_; have HB := n4_; clear n0_ n1_ n2_ n3_ n4_; (try clear hb); (try clear hb2); (try clear hk); (try clear hi); (try clear ho0); obtain ⟨Ao72, co72, eo72⟩ := Kd.R_slice HO576.out; subst eo72) | ((with_reducible refine gate_callee (f := 32) rfl ?_); refine goesL_ (some 130) rfl rfl Try.func32 (by kernel_rfl) rfl #[.slice Ao72 t574.length co72, .int .i64 a1] rfl (by (try simp only [List.map_toArray, List.map_cons, List.map_nil]); first | done | rfl | (simp only [List.length_drop, List.length_take]; rfl)) ?_; (with_reducible refine (skiarealaw16_has.calls k3 _ _ t574 a1 true _ ?side1 ?side2 A66.out).mono ?_); (case side1 => repeat (first | exact (Kd.R_reads' HO576.out).2.2 | (with_reducible refine Kd.C_alloc ?_ _) | (with_reducible refine Kd.C_drewN ?_ _) | (with_reducible refine Kd.C_drew ?_))); (case side2 => exact (Kd.R_reads' HO576.out).2.1); rintro e w' ⟨rfl, ⟨nd, rfl⟩⟩; refine ⟨_, rfl, ?_⟩))
             go_ret
             exact ⟨by first | rfl | (simp [errW_none, errW_some] <;> rfl) | (simp [*, errW_none, errW_some] <;> rfl), by repeat (first | (with_reducible first | exact HB.out | apply below_alloc | apply pw_below_drewN | apply below_drew1 | refine below_set ?_ GE552.out | refine below_set ?_ GE560.out) | exact HB.out)⟩
            ·replace c67 := Bool.eq_false_iff.mpr c67
             subst c67; have H1 : (if x11_3 = true then (some true) else (some x12_3)) = some r := by rw [if_neg (show ¬ (false = true) by decide)] at H; exact H
             clear H; have H := H1; clear H1
             by_cases c73 : x11_3 = true
             ·subst c73
              have H1 : (some true) = some r := by rw [if_pos rfl] at H; exact H
              clear H; have H := H1; clear H1
              obtain rfl := Option.some.inj H
              have hnb74 := NB560_552.out; have hnc74 := NB552_560.out; have hcz75_0 : wr.cell? ⟨gb560, 0, none⟩ = some (u561000) := (blk_cell BK560.out 0).trans rfl; have hcz75_1 : wr.cell? ⟨gb560, 1, none⟩ = some (.int .i64 x561001_3) := (blk_cell BK560.out 1).trans rfl; have hfz75_0 := blk_frozen BK560.out 0; have hfz75_1 := blk_frozen BK560.out 1
              obtain ⟨Ao76, co76, eo76⟩ := Kd.V_slice HO_561000.out
              subst eo76
              go_wp2_with (first | ((with_reducible refine gate_callee (f := 28) rfl ?_); refine goesL_ (some 128) rfl rfl Try.func28 (by kernel_rfl) rfl #[.agg #[.slice Ao76 x561000_3.length co76, .int .i64 x561001_3], .int .i64 a3] rfl (by (try simp only [List.map_toArray, List.map_cons, List.map_nil]); first | done | rfl | (simp only [List.length_drop, List.length_take]; rfl)) ?_; (with_reducible refine (chain_Faults.calls k3 _ _ x561000_3 x561001_3 a3 t574 _ ?side1 ?side2 A65.out).mono ?_); (case side1 => repeat (first | exact (Kd.V_reads' HO_561000.out).2.2 | (with_reducible refine Kd.C_alloc ?_ _) | (with_reducible refine Kd.C_drewN ?_ _) | (with_reducible refine Kd.C_drew ?_))); (case side2 => exact (Kd.V_reads' HO_561000.out).2.1); rintro e w77 ⟨v575, rfl, ho0, hb⟩; refine ⟨_, rfl, ?_⟩; have n0_ := Aside0.mk (Kd.V_elder' (by (with_reducible repeat (first | apply Kd.V_alloc | apply Kd.V_drewN | apply Kd.V_drew)); exact HO_561000.out) (Kd.R_base ho0) hb); have n1_ := Aside0.mk (Kd.R_lower ho0 (below_size (by repeat (first | (with_reducible first | exact HB.out | apply below_alloc | apply pw_below_drewN | apply below_drew1 | refine below_set ?_ GE552.out | refine below_set ?_ GE560.out) | exact HB.out)))); have n2_ := Aside0.mk (bb_ BK552.out hb); have n3_ := Aside0.mk (bb_ BK560.out hb); have n4_ := Aside0.mk (below_step (by repeat (first | (with_reducible first | exact HB.out | apply below_alloc | apply pw_below_drewN | apply below_drew1 | refine below_set ?_ GE552.out | refine below_set ?_ GE560.out) | exact HB.out)) hb); clear HO_561000; clear BK552; clear BK560; clear HB; have HO_561000 := n0_; have HO576 := n1_; have BK552 := n2_; have BK560 := n3_; have HB := n4_; clear n0_ n1_ n2_ n3_ n4_; (try clear hb); (try clear hb2); (try clear hk); (try clear hi); (try clear ho0); obtain ⟨Ao78, co78, eo78⟩ := Kd.R_slice HO576.out; subst eo78) | ((with_reducible refine gate_callee (f := 32) rfl ?_); refine goesL_ (some 130) rfl rfl Try.func32 (by kernel_rfl) rfl #[.slice Ao78 t574.length co78, .int .i64 a1] rfl (by (try simp only [List.map_toArray, List.map_cons, List.map_nil]); first | done | rfl | (simp only [List.length_drop, List.length_take]; rfl)) ?_; (with_reducible refine (skiarealaw16_has.calls k3 _ _ t574 a1 false _ ?side1 ?side2 A66.out).mono ?_); (case side1 => repeat (first | exact (Kd.R_reads' HO576.out).2.2 | (with_reducible refine Kd.C_alloc ?_ _) | (with_reducible refine Kd.C_drewN ?_ _) | (with_reducible refine Kd.C_drew ?_))); (case side2 => exact (Kd.R_reads' HO576.out).2.1); rintro e w' ⟨rfl, ⟨nd, rfl⟩⟩; refine ⟨_, rfl, ?_⟩))
              go_ret
              exact ⟨by first | rfl | (simp [errW_none, errW_some] <;> rfl) | (simp [*, errW_none, errW_some] <;> rfl), by repeat (first | (with_reducible first | exact HB.out | apply below_alloc | apply pw_below_drewN | apply below_drew1 | refine below_set ?_ GE552.out | refine below_set ?_ GE560.out) | exact HB.out)⟩
             ·replace c73 := Bool.eq_false_iff.mpr c73
              subst c73; have H1 : (some x12_3) = some r := by rw [if_neg (show ¬ (false = true) by decide)] at H; exact H
              clear H; have H := H1; clear H1
              obtain rfl := Option.some.inj H
              have hnb79 := NB560_552.out; have hnc79 := NB552_560.out; have hcz80_0 : wr.cell? ⟨gb560, 0, none⟩ = some (u561000) := (blk_cell BK560.out 0).trans rfl; have hcz80_1 : wr.cell? ⟨gb560, 1, none⟩ = some (.int .i64 x561001_3) := (blk_cell BK560.out 1).trans rfl; have hfz80_0 := blk_frozen BK560.out 0; have hfz80_1 := blk_frozen BK560.out 1
              obtain ⟨Ao81, co81, eo81⟩ := Kd.V_slice HO_561000.out
              subst eo81
              go_wp2_with (first | ((with_reducible refine gate_callee (f := 28) rfl ?_); refine goesL_ (some 128) rfl rfl Try.func28 (by kernel_rfl) rfl #[.agg #[.slice Ao81 x561000_3.length co81, .int .i64 x561001_3], .int .i64 a3] rfl (by (try simp only [List.map_toArray, List.map_cons, List.map_nil]); first | done | rfl | (simp only [List.length_drop, List.length_take]; rfl)) ?_; (with_reducible refine (chain_Faults.calls k3 _ _ x561000_3 x561001_3 a3 t574 _ ?side1 ?side2 A65.out).mono ?_); (case side1 => repeat (first | exact (Kd.V_reads' HO_561000.out).2.2 | (with_reducible refine Kd.C_alloc ?_ _) | (with_reducible refine Kd.C_drewN ?_ _) | (with_reducible refine Kd.C_drew ?_))); (case side2 => exact (Kd.V_reads' HO_561000.out).2.1); rintro e w82 ⟨v575, rfl, ho0, hb⟩; refine ⟨_, rfl, ?_⟩; have n0_ := Aside0.mk (Kd.V_elder' (by (with_reducible repeat (first | apply Kd.V_alloc | apply Kd.V_drewN | apply Kd.V_drew)); exact HO_561000.out) (Kd.R_base ho0) hb); have n1_ := Aside0.mk (Kd.R_lower ho0 (below_size (by repeat (first | (with_reducible first | exact HB.out | apply below_alloc | apply pw_below_drewN | apply below_drew1 | refine below_set ?_ GE552.out | refine below_set ?_ GE560.out) | exact HB.out)))); have n2_ := Aside0.mk (bb_ BK552.out hb); have n3_ := Aside0.mk (bb_ BK560.out hb); have n4_ := Aside0.mk (below_step (by repeat (first | (with_reducible first | exact HB.out | apply below_alloc | apply pw_below_drewN | apply below_drew1 | refine below_set ?_ GE552.out | refine below_set ?_ GE560.out) | exact HB.out)) hb); clear HO_561000; clear BK552; clear BK560; clear HB; have HO_561000 := n0_; have HO576 := n1_; have BK552 := n2_; have BK560 := n3_; have HB := n4_; clear n0_ n1_ n2_ n3_ n4_; (try clear hb); (try clear hb2); (try clear hk); (try clear hi); (try clear ho0); obtain ⟨Ao83, co83, eo83⟩ := Kd.R_slice HO576.out; subst eo83) | ((with_reducible refine gate_callee (f := 32) rfl ?_); refine goesL_ (some 130) rfl rfl Try.func32 (by kernel_rfl) rfl #[.slice Ao83 t574.length co83, .int .i64 a1] rfl (by (try simp only [List.map_toArray, List.map_cons, List.map_nil]); first | done | rfl | (simp only [List.length_drop, List.length_take]; rfl)) ?_; (with_reducible refine (skiarealaw16_has.calls k3 _ _ t574 a1 false _ ?side1 ?side2 A66.out).mono ?_); (case side1 => repeat (first | exact (Kd.R_reads' HO576.out).2.2 | (with_reducible refine Kd.C_alloc ?_ _) | (with_reducible refine Kd.C_drewN ?_ _) | (with_reducible refine Kd.C_drew ?_))); (case side2 => exact (Kd.R_reads' HO576.out).2.1); rintro e w' ⟨rfl, ⟨nd, rfl⟩⟩; refine ⟨_, rfl, ?_⟩))
              go_ret
              exact ⟨by first | rfl | (simp [errW_none, errW_some] <;> rfl) | (simp [*, errW_none, errW_some] <;> rfl), by repeat (first | (with_reducible first | exact HB.out | apply below_alloc | apply pw_below_drewN | apply below_drew1 | refine below_set ?_ GE552.out | refine below_set ?_ GE560.out) | exact HB.out)⟩
     ·replace c18 := Bool.eq_false_iff.mpr c18
      subst c18; have H1 : (some true) = some r := by rw [if_neg (show ¬ (false = true) by decide)] at H; exact H
      clear H; have H := H1; clear H1
      obtain rfl := Option.some.inj H
      have hcz84_0 : wc.cell? ⟨gb552, 0, none⟩ = some (.slice A0_0 l0_0.length c0_0) := (blk_cell BK552.out 0).trans rfl; have hcz84_1 : wc.cell? ⟨gb552, 1, none⟩ = some (.int .i64 a0_1) := (blk_cell BK552.out 1).trans rfl; have hfz84_0 := blk_frozen BK552.out 0; have hfz84_1 := blk_frozen BK552.out 1
      go_wp2_with (first | ((with_reducible refine gate_callee (f := 30) rfl ?_); refine goesL_ (some 32) rfl rfl Try.func30 (by kernel_rfl) rfl #[.agg #[.slice A0_0 l0_0.length c0_0, .int .i64 a0_1], .agg #[.int .i64 0, .int .i64 a1, .int .i64 0, .int .i64 0]] rfl (by (try simp only [List.map_toArray, List.map_cons, List.map_nil]); first | done | rfl | (simp only [List.length_drop, List.length_take]; rfl)) ?_; (with_reducible refine (skiarealaw16_do.calls kj6 (fun k_ => k_ < w.heap.size) _ _ l0_0 a0_1 0 a1 0 0 t555 t558 false _ ?side1 A17.out).mono ?_); (case side1 => exact Kd.V_mk HC0_0.out (Kd.F_below (Kd.C_F k48_heap HR0_0.out) (by repeat (first | (with_reducible first | exact HB.out | apply below_alloc | apply pw_below_drewN | apply below_drew1 | refine below_set ?_ GE552.out) | exact HB.out)))); rintro e w85 ⟨v556, rfl, ho0, hb⟩; refine ⟨_, rfl, ?_⟩; have n0_ := Aside0.mk (Kd.V_lower (Kd.V_mono (ok' := fun k_ => k_ ≠ gb552) ho0 (fun k_ hk_ => Or.elim hk_ (fun hs_ => fun e_ => Nat.not_le.2 hs_ (by rw [e_]; exact GW552.out)) (fun hn_ => (Kd.freshB (g := gb552) (o := .cells #[.slice A0_0 l0_0.length c0_0, .int .i64 a0_1] 24 (0, 0)) (sb_ BK552.out) k_ hn_)))) (below_size (by repeat (first | (with_reducible first | exact HB.out | apply below_alloc | apply pw_below_drewN | apply below_drew1 | refine below_set ?_ GE552.out) | exact HB.out)))); have n1_ := Aside0.mk (bb_ BK552.out hb); have n2_ := Aside0.mk (below_step (by repeat (first | (with_reducible first | exact HB.out | apply below_alloc | apply pw_below_drewN | apply below_drew1 | refine below_set ?_ GE552.out) | exact HB.out)) hb); clear BK552; clear HB; have HO557 := n0_; have BK552 := n1_; have HB := n2_; clear n0_ n1_ n2_; (try clear hb); (try clear hb2); (try clear hk); (try clear hi); (try clear ho0)) | ((with_reducible refine gate_dst (N := 9) rfl ?_); (try (refine gate_guard (by rfl) ?_; dsimp only)); refine box_event ?hg (N := 9) ?hd (cs := #[.slice none 0 0, .int .i64 0]) (t := 24) ?hr ?_; (case hd => rfl); (case hg => rfl); (case hr => first | (go_simp; done) | (go_simp; rfl)); intro gb560 hg w86 hbox hb; have n0_ := Aside0.mk (Kd.V_below (Kd.V_elderB (by (with_reducible repeat (first | apply Kd.V_alloc | apply Kd.V_drewN | apply Kd.V_drew)); exact HO557.out) gb560 (Nat.le_of_eq hg.symm)) hb); have n1_ := Aside0.mk (bb_ BK552.out hb); have n2_ := Aside0.mk (below_step (by repeat (first | (with_reducible first | exact HB.out | apply below_alloc | apply pw_below_drewN | apply below_drew1 | refine below_set ?_ GE552.out) | exact HB.out)) hb); have n3_ := Aside0.mk (hbox); have n4_ := Aside0.mk ((by rw [hg]; exact (below_size (by repeat (first | (with_reducible first | exact HB.out | apply below_alloc | apply pw_below_drewN | apply below_drew1 | refine below_set ?_ GE552.out) | exact HB.out))) : w.heap.size ≤ gb560)); have n5_ := n4_; have n6_ := Aside0.mk (nl_ hg BK552.out); have n7_ := Aside0.mk (ng_ hg BK552.out); clear HO557; clear BK552; clear HB; have HO557 := n0_; have BK552 := n1_; have HB := n2_; have BK560 := n3_; have GW560 := n4_; have GE560 := n5_; have NB552_560 := n6_; have NB560_552 := n7_; clear n0_ n1_ n2_ n3_ n4_ n5_ n6_ n7_; clear hb hbox hg; obtain ⟨Ao87, co87, eo87⟩ := Kd.V_slice HO557.out; subst eo87; have hnb88 := NB560_552.out; have hnc88 := NB552_560.out; have hcz89_0 : w86.cell? ⟨gb560, 0, none⟩ = some (.slice none 0 0) := (blk_cell BK560.out 0).trans rfl; have hcz89_1 : w86.cell? ⟨gb560, 1, none⟩ = some (.int .i64 0) := (blk_cell BK560.out 1).trans rfl; have hfz89_0 := blk_frozen BK560.out 0; have hfz89_1 := blk_frozen BK560.out 1))
      go_ret
      exact ⟨by first | rfl | (simp [errW_none, errW_some] <;> rfl) | (simp [*, errW_none, errW_some] <;> rfl), by repeat (first | (with_reducible first | exact HB.out | apply below_alloc | apply pw_below_drewN | apply below_drew1 | refine below_set ?_ GE552.out | refine below_set ?_ GE560.out) | exact HB.out)⟩
 ·replace c6 := Bool.eq_false_iff.mpr c6
  subst c6; have H1 : (none) = some r := by rw [if_neg (show ¬ (false = true) by decide)] at H; exact H
  clear H; have H := H1; clear H1
  exact absurd H (by simp)

end Go.Proofs.Yteepdedbldnccaa.P
