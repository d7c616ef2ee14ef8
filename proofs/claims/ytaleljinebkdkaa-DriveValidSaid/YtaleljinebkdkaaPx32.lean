-- Written by wip/tools/laws.py of this repo over the kit's printer, for this claim.
import Derived.Test.YtaleljinebkdkaaPx0
import Derived.Test.YtaleljinebkdkaaPx1
import Derived.Test.YtaleljinebkdkaaPx4
import Derived.Test.YtaleljinebkdkaaPx5
import Derived.Test.YtaleljinebkdkaaPx6
import Derived.Test.YtaleljinebkdkaaPx7
import Derived.Test.YtaleljinebkdkaaPx8
import Derived.Test.YtaleljinebkdkaaPx11
import Derived.Test.YtaleljinebkdkaaPx14
import Derived.Test.YtaleljinebkdkaaPx18
namespace Go.Proofs.Ytaleljinebkdkaa.P
open Go.RowKit Go.Proofs.YtaleljinebkdkaaW.PrintWords Go.Proofs.YtaleljinebkdkaaW.PrintLast Go.Proofs.YtaleljinebkdkaaW.PrintMore
attribute [local go_sem] max2_int min2_int max_two min_two max_three min_three max_four min_four   -- for this text's walks alone
set_option linter.unusedVariables false
set_option linter.unusedSimpArgs false

attribute [local go_sem high] eqA25
/-! ### skiarealaw14_DriveValid: function 9 -/
mutual
def skiarealaw14_DriveValid.j0 : Nat → List (S42) → Bool → Int → Int → Int → Int → Int → Int → Int → Int → Option (Bool)
 | 0, _, _, _, _, _, _, _, _, _, _ => none
 | k + 1, x2, x20, x333000, x333001, x333002, x333003, x334000, x334001, x334002, x334003 => if x20 = true then (some true) else (skiarealaw14_DriveValid.l0 k x2 0 x333000 x333001 x333002 x333003 x334000 x334001 x334002 x334003)
def skiarealaw14_DriveValid.l0 : Nat → List (S42) → Int → Int → Int → Int → Int → Int → Int → Int → Int → Option (Bool)
 | 0, _, _, _, _, _, _, _, _, _, _ => none
 | k + 1, x2, x7, x333000, x333001, x333002, x333003, x334000, x334001, x334002, x334003 => if x7 < (x2.length : Int) then (if 0 ≤ x7 then (if ((rd_T42 x2 x7).f0) = 0 then ((drive_Start.f k x333000 x333001 x333002 x333003 x334000 x334001 x334002 x334003 ((rd_T42 x2 x7).f1)).bind fun bt339 => (skiarealaw14_DriveValid.j2 k x2 x7 bt339.2.2.2.2 x333000 x333001 x333002 x333003 x334000 x334001 x334002 x334003 bt339.1 bt339.2.1 bt339.2.2.1 bt339.2.2.2.1)) else (if ((rd_T42 x2 x7).f0) = 1 then ((drive_Halt.f x333000 x333001 x333002 x333003 x334000 x334001 x334002 x334003).bind fun bt345 => (skiarealaw14_DriveValid.j2 k x2 x7 0 x333000 x333001 x333002 x333003 x334000 x334001 x334002 x334003 bt345.1 bt345.2.1 bt345.2.2.1 bt345.2.2.2)) else (if ((rd_T42 x2 x7).f0) = 2 then ((drive_Emergency.f x333000 x333001 x333002 x333003 x334000 x334001 x334002 x334003).bind fun bt350 => (skiarealaw14_DriveValid.j2 k x2 x7 0 x333000 x333001 x333002 x333003 x334000 x334001 x334002 x334003 bt350.1 bt350.2.1 bt350.2.2.1 bt350.2.2.2)) else (if ((rd_T42 x2 x7).f0) = 3 then ((drive_Reset.f x333000 x333001 x333002 x333003 x334000 x334001 x334002 x334003).bind fun bt355 => (skiarealaw14_DriveValid.j2 k x2 x7 bt355.2.2.2.2 x333000 x333001 x333002 x333003 x334000 x334001 x334002 x334003 bt355.1 bt355.2.1 bt355.2.2.1 bt355.2.2.2.1)) else ((drive_Step.f k x333000 x333001 x333002 x333003 x334000 x334001 x334002 x334003 (mn ((rd_T42 x2 x7).f1) 100)).bind fun bt361 => (skiarealaw14_DriveValid.j2 k x2 x7 0 x333000 x333001 x333002 x333003 x334000 x334001 x334002 x334003 bt361.1 bt361.2.1 bt361.2.2.1 bt361.2.2.2)))))) else (none)) else (some true)
def skiarealaw14_DriveValid.j2 : Nat → List (S42) → Int → Int → Int → Int → Int → Int → Int → Int → Int → Int → Int → Int → Int → Int → Option (Bool)
 | 0, _, _, _, _, _, _, _, _, _, _, _, _, _, _, _ => none
 | k + 1, x2, x7, x9, x333000, x333001, x333002, x333003, x334000, x334001, x334002, x334003, x337000, x337001, x337002, x337003 => if x9 = 0 then ((drive_Valid.f k x333000 x333001 x333002 x333003 x337000 x337001 x337002 x337003).bind fun t365 => (if t365 = true then (if 0 ≤ x7 then (if x7 < (x2.length : Int) then (if ((rd_T42 x2 x7).f0) ≥ 0 then (if ((rd_T42 x2 x7).f0) ≤ 3 then (if x337003 = x334003 then (if x337001 = x334001 then (if x334000 = 3 then (if ((rd_T42 x2 x7).f0) = 3 then (skiarealaw14_DriveValid.l0 k x2 (wrap64 (x7 + 1)) x333000 x333001 x333002 x333003 x337000 x337001 x337002 x337003) else (if x337000 = 3 then (skiarealaw14_DriveValid.l0 k x2 (wrap64 (x7 + 1)) x333000 x333001 x333002 x333003 x337000 x337001 x337002 x337003) else (none))) else (skiarealaw14_DriveValid.l0 k x2 (wrap64 (x7 + 1)) x333000 x333001 x333002 x333003 x337000 x337001 x337002 x337003)) else (none)) else (none)) else (if x334000 = 3 then (if ((rd_T42 x2 x7).f0) = 3 then (skiarealaw14_DriveValid.l0 k x2 (wrap64 (x7 + 1)) x333000 x333001 x333002 x333003 x337000 x337001 x337002 x337003) else (if x337000 = 3 then (skiarealaw14_DriveValid.l0 k x2 (wrap64 (x7 + 1)) x333000 x333001 x333002 x333003 x337000 x337001 x337002 x337003) else (none))) else (skiarealaw14_DriveValid.l0 k x2 (wrap64 (x7 + 1)) x333000 x333001 x333002 x333003 x337000 x337001 x337002 x337003))) else (if x334000 = 3 then (if ((rd_T42 x2 x7).f0) = 3 then (skiarealaw14_DriveValid.l0 k x2 (wrap64 (x7 + 1)) x333000 x333001 x333002 x333003 x337000 x337001 x337002 x337003) else (if x337000 = 3 then (skiarealaw14_DriveValid.l0 k x2 (wrap64 (x7 + 1)) x333000 x333001 x333002 x333003 x337000 x337001 x337002 x337003) else (none))) else (skiarealaw14_DriveValid.l0 k x2 (wrap64 (x7 + 1)) x333000 x333001 x333002 x333003 x337000 x337001 x337002 x337003))) else (none)) else (none)) else (none))) else (if (!(x337000 == 0) || (!(x337001 == 0) || (!(x337002 == 0) || (!(x337003 == 0))))) = true then (none) else (skiarealaw14_DriveValid.l0 k x2 (wrap64 (x7 + 1)) x333000 x333001 x333002 x333003 x334000 x334001 x334002 x334003))
end
def skiarealaw14_DriveValid.f (k : Nat) (a0_0 : Int) (a0_1 : Int) (a0_2 : Int) (a0_3 : Int) (a1_0 : Int) (a1_1 : Int) (a1_2 : Int) (a1_3 : Int) (l2 : List (S42)) : Option (Bool) := (skiarealaw14_alive.f k).bind fun t334 => (if t334 = true then ((skiarealaw14_valid.f k a0_0 a0_1 a0_2 a0_3 a1_0 a1_1 a1_2 a1_3).bind fun t335 => (if t335 = true then (skiarealaw14_DriveValid.j0 k l2 (decide ((l2.length : Int) > 60)) a0_0 a0_1 a0_2 a0_3 a1_0 a1_1 a1_2 a1_3) else (skiarealaw14_DriveValid.j0 k l2 true a0_0 a0_1 a0_2 a0_3 a1_0 a1_1 a1_2 a1_3))) else (none))
theorem skiarealaw14_DriveValid.mono_l : ∀ k, (∀ y0 y1 y2 y3 y4 y5 y6 y7 y8 y9, LeO (skiarealaw14_DriveValid.j0 k y0 y1 y2 y3 y4 y5 y6 y7 y8 y9) (skiarealaw14_DriveValid.j0 (k + 1) y0 y1 y2 y3 y4 y5 y6 y7 y8 y9)) ∧ (∀ y0 y1 y2 y3 y4 y5 y6 y7 y8 y9, LeO (skiarealaw14_DriveValid.l0 k y0 y1 y2 y3 y4 y5 y6 y7 y8 y9) (skiarealaw14_DriveValid.l0 (k + 1) y0 y1 y2 y3 y4 y5 y6 y7 y8 y9)) ∧ (∀ y0 y1 y2 y3 y4 y5 y6 y7 y8 y9 y10 y11 y12 y13 y14, LeO (skiarealaw14_DriveValid.j2 k y0 y1 y2 y3 y4 y5 y6 y7 y8 y9 y10 y11 y12 y13 y14) (skiarealaw14_DriveValid.j2 (k + 1) y0 y1 y2 y3 y4 y5 y6 y7 y8 y9 y10 y11 y12 y13 y14))
 | 0 => ⟨fun _ _ _ _ _ _ _ _ _ _ r h => by simp [skiarealaw14_DriveValid.j0] at h, fun _ _ _ _ _ _ _ _ _ _ r h => by simp [skiarealaw14_DriveValid.l0] at h, fun _ _ _ _ _ _ _ _ _ _ _ _ _ _ _ r h => by simp [skiarealaw14_DriveValid.j2] at h⟩
 | k + 1 => by
  obtain ⟨ih0, ih1, ih2⟩ := skiarealaw14_DriveValid.mono_l k
  refine ⟨?_, ?_, ?_⟩
  ·intro y0 y1 y2 y3 y4 y5 y6 y7 y8 y9
   unfold skiarealaw14_DriveValid.j0
   repeat' first
   | (with_reducible exact ih0 _ _ _ _ _ _ _ _ _ _)
   | (with_reducible exact ih1 _ _ _ _ _ _ _ _ _ _)
   | (with_reducible exact ih2 _ _ _ _ _ _ _ _ _ _ _ _ _ _ _)
   | (with_reducible exact drive_Start.mono _ _ _ _ _ _ _ _ _ _)
   | (with_reducible exact drive_Step.mono _ _ _ _ _ _ _ _ _ _)
   | (with_reducible exact drive_Valid.mono _ _ _ _ _ _ _ _ _)
   | (with_reducible exact skiarealaw14_alive.mono _)
   | (with_reducible exact skiarealaw14_valid.mono _ _ _ _ _ _ _ _ _)
   | (with_reducible exact LeO.refl _)
   | (with_reducible exact LeO.none _)
   | (with_reducible refine LeO.ite ?_ ?_)
   | (with_reducible refine LeO.bind ?_ (fun _ => ?_))
   | exact ih0 _ _ _ _ _ _ _ _ _ _
   | exact ih1 _ _ _ _ _ _ _ _ _ _
   | exact ih2 _ _ _ _ _ _ _ _ _ _ _ _ _ _ _
   | exact drive_Start.mono _ _ _ _ _ _ _ _ _ _
   | exact drive_Step.mono _ _ _ _ _ _ _ _ _ _
   | exact drive_Valid.mono _ _ _ _ _ _ _ _ _
   | exact skiarealaw14_alive.mono _
   | exact skiarealaw14_valid.mono _ _ _ _ _ _ _ _ _
   | exact LeO.none _
   | refine LeO.ite ?_ ?_
   | refine LeO.bind ?_ (fun _ => ?_)
  ·intro y0 y1 y2 y3 y4 y5 y6 y7 y8 y9
   unfold skiarealaw14_DriveValid.l0
   repeat' first
   | (with_reducible exact ih0 _ _ _ _ _ _ _ _ _ _)
   | (with_reducible exact ih1 _ _ _ _ _ _ _ _ _ _)
   | (with_reducible exact ih2 _ _ _ _ _ _ _ _ _ _ _ _ _ _ _)
   | (with_reducible exact drive_Start.mono _ _ _ _ _ _ _ _ _ _)
   | (with_reducible exact drive_Step.mono _ _ _ _ _ _ _ _ _ _)
   | (with_reducible exact drive_Valid.mono _ _ _ _ _ _ _ _ _)
   | (with_reducible exact skiarealaw14_alive.mono _)
   | (with_reducible exact skiarealaw14_valid.mono _ _ _ _ _ _ _ _ _)
   | (with_reducible exact LeO.refl _)
   | (with_reducible exact LeO.none _)
   | (with_reducible refine LeO.ite ?_ ?_)
   | (with_reducible refine LeO.bind ?_ (fun _ => ?_))
   | exact ih0 _ _ _ _ _ _ _ _ _ _
   | exact ih1 _ _ _ _ _ _ _ _ _ _
   | exact ih2 _ _ _ _ _ _ _ _ _ _ _ _ _ _ _
   | exact drive_Start.mono _ _ _ _ _ _ _ _ _ _
   | exact drive_Step.mono _ _ _ _ _ _ _ _ _ _
   | exact drive_Valid.mono _ _ _ _ _ _ _ _ _
   | exact skiarealaw14_alive.mono _
   | exact skiarealaw14_valid.mono _ _ _ _ _ _ _ _ _
   | exact LeO.none _
   | refine LeO.ite ?_ ?_
   | refine LeO.bind ?_ (fun _ => ?_)
  ·intro y0 y1 y2 y3 y4 y5 y6 y7 y8 y9 y10 y11 y12 y13 y14
   unfold skiarealaw14_DriveValid.j2
   repeat' first
   | (with_reducible exact ih0 _ _ _ _ _ _ _ _ _ _)
   | (with_reducible exact ih1 _ _ _ _ _ _ _ _ _ _)
   | (with_reducible exact ih2 _ _ _ _ _ _ _ _ _ _ _ _ _ _ _)
   | (with_reducible exact drive_Start.mono _ _ _ _ _ _ _ _ _ _)
   | (with_reducible exact drive_Step.mono _ _ _ _ _ _ _ _ _ _)
   | (with_reducible exact drive_Valid.mono _ _ _ _ _ _ _ _ _)
   | (with_reducible exact skiarealaw14_alive.mono _)
   | (with_reducible exact skiarealaw14_valid.mono _ _ _ _ _ _ _ _ _)
   | (with_reducible exact LeO.refl _)
   | (with_reducible exact LeO.none _)
   | (with_reducible refine LeO.ite ?_ ?_)
   | (with_reducible refine LeO.bind ?_ (fun _ => ?_))
   | exact ih0 _ _ _ _ _ _ _ _ _ _
   | exact ih1 _ _ _ _ _ _ _ _ _ _
   | exact ih2 _ _ _ _ _ _ _ _ _ _ _ _ _ _ _
   | exact drive_Start.mono _ _ _ _ _ _ _ _ _ _
   | exact drive_Step.mono _ _ _ _ _ _ _ _ _ _
   | exact drive_Valid.mono _ _ _ _ _ _ _ _ _
   | exact skiarealaw14_alive.mono _
   | exact skiarealaw14_valid.mono _ _ _ _ _ _ _ _ _
   | exact LeO.none _
   | refine LeO.ite ?_ ?_
   | refine LeO.bind ?_ (fun _ => ?_)
theorem skiarealaw14_DriveValid.mono : ∀ a0 a1 a2 a3 a4 a5 a6 a7 a8 k, LeO (skiarealaw14_DriveValid.f k a0 a1 a2 a3 a4 a5 a6 a7 a8) (skiarealaw14_DriveValid.f (k + 1) a0 a1 a2 a3 a4 a5 a6 a7 a8) := by
 intro a0 a1 a2 a3 a4 a5 a6 a7 a8 k
 obtain ⟨ih0, ih1, ih2⟩ := skiarealaw14_DriveValid.mono_l k
 unfold skiarealaw14_DriveValid.f
 repeat' first
   | (with_reducible exact ih0 _ _ _ _ _ _ _ _ _ _)
   | (with_reducible exact ih1 _ _ _ _ _ _ _ _ _ _)
   | (with_reducible exact ih2 _ _ _ _ _ _ _ _ _ _ _ _ _ _ _)
   | (with_reducible exact drive_Start.mono _ _ _ _ _ _ _ _ _ _)
   | (with_reducible exact drive_Step.mono _ _ _ _ _ _ _ _ _ _)
   | (with_reducible exact drive_Valid.mono _ _ _ _ _ _ _ _ _)
   | (with_reducible exact skiarealaw14_alive.mono _)
   | (with_reducible exact skiarealaw14_valid.mono _ _ _ _ _ _ _ _ _)
   | (with_reducible exact LeO.refl _)
   | (with_reducible exact LeO.none _)
   | (with_reducible refine LeO.ite ?_ ?_)
   | (with_reducible refine LeO.bind ?_ (fun _ => ?_))
   | exact ih0 _ _ _ _ _ _ _ _ _ _
   | exact ih1 _ _ _ _ _ _ _ _ _ _
   | exact ih2 _ _ _ _ _ _ _ _ _ _ _ _ _ _ _
   | exact drive_Start.mono _ _ _ _ _ _ _ _ _ _
   | exact drive_Step.mono _ _ _ _ _ _ _ _ _ _
   | exact drive_Valid.mono _ _ _ _ _ _ _ _ _
   | exact skiarealaw14_alive.mono _
   | exact skiarealaw14_valid.mono _ _ _ _ _ _ _ _ _
   | exact LeO.none _
   | refine LeO.ite ?_ ?_
   | refine LeO.bind ?_ (fun _ => ?_)
def skiarealaw14_DriveValid.T10 : Bool × List (List Nat × List Nat) := (true, [([], []), ([], []), ([], []), ([], []), ([2, 3], [2, 3]), ([4], [4]), ([5], [5]), ([0, 1, 6], [0, 1, 6]), ([7], [7]), ([8], [8]), ([8], [8]), ([9, 7, 0, 1, 2, 3, 4, 5, 6, 7, 8, 9], [9]), ([10, 11, 0, 1, 2, 3, 4, 5, 6, 7, 8, 9, 10, 11], [10])])
def skiarealaw14_DriveValid.B10 : List Nat := [0, 0, 0, 0, 12, 28, 60, 127, 255, 511, 511, 1023, 4095]
theorem skiarealaw14_DriveValid.tab10 : rtab .any (opsOf Try.f9 10) = skiarealaw14_DriveValid.T10 := by kernel_rfl
theorem skiarealaw14_DriveValid.bits10 : waitsOk skiarealaw14_DriveValid.T10.2 skiarealaw14_DriveValid.B10 = true := by kernel_rfl
def skiarealaw14_DriveValid.T17 : Bool × List (List Nat × List Nat) := (true, [([], []), ([], []), ([], []), ([], []), ([2, 3], [2, 3]), ([4], [4]), ([5], [5]), ([6], [6]), ([0, 1, 7], [0, 1, 7]), ([8, 8, 0, 1, 2, 3, 4, 5, 6, 7, 8], [8])])
def skiarealaw14_DriveValid.B17 : List Nat := [0, 0, 0, 0, 12, 28, 60, 124, 255, 511]
theorem skiarealaw14_DriveValid.tab17 : rtab .any (opsOf Try.f9 17) = skiarealaw14_DriveValid.T17 := by kernel_rfl
theorem skiarealaw14_DriveValid.bits17 : waitsOk skiarealaw14_DriveValid.T17.2 skiarealaw14_DriveValid.B17 = true := by kernel_rfl
set_option maxHeartbeats 8000000 in
set_option maxRecDepth 100000 in
theorem skiarealaw14_DriveValid.calls (k : Nat) (a0_0 : Int) (a0_1 : Int) (a0_2 : Int) (a0_3 : Int) (a1_0 : Int) (a1_1 : Int) (a1_2 : Int) (a1_3 : Int) (A2 : Option Addr) (c2 : Nat) (l2 : List (S42)) (r : Bool) (w : World) (hr2 : Kd.C k42 w A2 l2.length l2) (hc2 : l2.length ≤ c2) (h : skiarealaw14_DriveValid.f k a0_0 a0_1 a0_2 a0_3 a1_0 a1_1 a1_2 a1_3 l2 = some r) :
  Calls Try.prog 9 #[.agg #[.int .i64 a0_0, .int .i64 a0_1, .int .i64 a0_2, .int .i64 a0_3], .agg #[.int .i64 a1_0, .int .i64 a1_1, .int .i64 a1_2, .int .i64 a1_3], .slice A2 l2.length c2] w fun e w' => e = .returned (.bool r) ∧ Below w.heap.size w w' := by
 have hu23 := Try.underlying23
 have hu25 := Try.underlying25
 have HR2 := Aside0.mk hr2
 have HC2 := Aside0.mk hc2
 clear hr2 hc2
 have HB := Aside0.mk (Below.refl w.heap.size w)
 have H : ((skiarealaw14_alive.f k).bind fun t334 => (if t334 = true then ((skiarealaw14_valid.f k a0_0 a0_1 a0_2 a0_3 a1_0 a1_1 a1_2 a1_3).bind fun t335 => (if t335 = true then (skiarealaw14_DriveValid.j0 k l2 (decide ((l2.length : Int) > 60)) a0_0 a0_1 a0_2 a0_3 a1_0 a1_1 a1_2 a1_3) else (skiarealaw14_DriveValid.j0 k l2 true a0_0 a0_1 a0_2 a0_3 a1_0 a1_1 a1_2 a1_3))) else (none))) = some r := h
 clear h
 replace H := Option.bind_eq_some_iff.mp H
 obtain ⟨t334, A40, H⟩ := H
 replace H : (if t334 = true then ((skiarealaw14_valid.f k a0_0 a0_1 a0_2 a0_3 a1_0 a1_1 a1_2 a1_3).bind fun t335 => (if t335 = true then (skiarealaw14_DriveValid.j0 k l2 (decide ((l2.length : Int) > 60)) a0_0 a0_1 a0_2 a0_3 a1_0 a1_1 a1_2 a1_3) else (skiarealaw14_DriveValid.j0 k l2 true a0_0 a0_1 a0_2 a0_3 a1_0 a1_1 a1_2 a1_3))) else (none)) = some r := H
 have A4 := Aside0.mk A40
 clear A40
 by_cases c5 : t334 = true
 ·subst c5
  have H1 : ((skiarealaw14_valid.f k a0_0 a0_1 a0_2 a0_3 a1_0 a1_1 a1_2 a1_3).bind fun t335 => (if t335 = true then (skiarealaw14_DriveValid.j0 k l2 (decide ((l2.length : Int) > 60)) a0_0 a0_1 a0_2 a0_3 a1_0 a1_1 a1_2 a1_3) else (skiarealaw14_DriveValid.j0 k l2 true a0_0 a0_1 a0_2 a0_3 a1_0 a1_1 a1_2 a1_3))) = some r := by rw [if_pos rfl] at H; exact H
  clear H
  have H := H1
  clear H1
  have HC6 := Aside0.mk H
  clear H
  go_enter Try.func9, Try.ntmps9
  go_upto_region 3 with (first | ((with_reducible refine gate_dst (N := 3) rfl ?_); (try (refine gate_guard (by rfl) ?_; dsimp only)); refine box_event ?hg (N := 3) ?hd (cs := #[.int .i64 a0_0, .int .i64 a0_1, .int .i64 a0_2, .int .i64 a0_3]) (t := 23) ?hr ?_; (case hd => rfl); (case hg => rfl); (case hr => first | (go_simp; done) | (go_simp; rfl)); intro gb332 hg w7 hbox hb; have n0_ := Aside0.mk (below_step (by repeat (first | (with_reducible first | exact HB.out | apply below_alloc | apply pw_below_drewN | apply below_drew1) | exact HB.out)) hb); have n1_ := Aside0.mk (hbox); have n2_ := Aside0.mk ((by rw [hg]; exact (below_size (by repeat (first | (with_reducible first | exact HB.out | apply below_alloc | apply pw_below_drewN | apply below_drew1) | exact HB.out))) : w.heap.size ≤ gb332)); have n3_ := Aside0.mk ((by rw [hg]; exact (below_size (by repeat (first | (with_reducible first | exact HB.out | apply below_alloc | apply pw_below_drewN | apply below_drew1) | exact HB.out))) : w.heap.size ≤ gb332)); clear HB; have HB := n0_; have BK332 := n1_; have GW332 := n2_; have GE332 := n3_; clear n0_ n1_ n2_ n3_; clear hb hbox hg) | ((with_reducible refine gate_dst (N := 4) rfl ?_); (try (refine gate_guard (by rfl) ?_; dsimp only)); refine box_event ?hg (N := 4) ?hd (cs := #[.int .i64 a1_0, .int .i64 a1_1, .int .i64 a1_2, .int .i64 a1_3]) (t := 25) ?hr ?_; (case hd => rfl); (case hg => rfl); (case hr => first | (go_simp; done) | (go_simp; rfl)); intro gb333 hg w8 hbox hb; have n0_ := Aside0.mk (bb_ BK332.out hb); have n1_ := Aside0.mk (below_step (by repeat (first | (with_reducible first | exact HB.out | apply below_alloc | apply pw_below_drewN | apply below_drew1 | refine below_set ?_ GE332.out) | exact HB.out)) hb); have n2_ := Aside0.mk (hbox); have n3_ := Aside0.mk ((by rw [hg]; exact (below_size (by repeat (first | (with_reducible first | exact HB.out | apply below_alloc | apply pw_below_drewN | apply below_drew1 | refine below_set ?_ GE332.out) | exact HB.out))) : w.heap.size ≤ gb333)); have n4_ := Aside0.mk ((by rw [hg]; exact (below_size (by repeat (first | (with_reducible first | exact HB.out | apply below_alloc | apply pw_below_drewN | apply below_drew1 | refine below_set ?_ GE332.out) | exact HB.out))) : w.heap.size ≤ gb333)); have n5_ := Aside0.mk ((by rw [hg]; exact Nat.ne_of_lt (blk_lt (g := gb332) (o := .cells #[.int .i64 a0_0, .int .i64 a0_1, .int .i64 a0_2, .int .i64 a0_3] 23 (0, 0)) (by (with_reducible repeat (first | refine blk_drewN ?_ _ | refine blk_drew ?_ | refine blk_alloc ?_ _)); exact BK332.out)) : gb332 ≠ gb333)); have n6_ := Aside0.mk ((by rw [hg]; exact Nat.ne_of_gt (blk_lt (g := gb332) (o := .cells #[.int .i64 a0_0, .int .i64 a0_1, .int .i64 a0_2, .int .i64 a0_3] 23 (0, 0)) (by (with_reducible repeat (first | refine blk_drewN ?_ _ | refine blk_drew ?_ | refine blk_alloc ?_ _)); exact BK332.out)) : gb333 ≠ gb332)); clear BK332; clear HB; have BK332 := n0_; have HB := n1_; have BK333 := n2_; have GW333 := n3_; have GE333 := n4_; have NB332_333 := n5_; have NB333_332 := n6_; clear n0_ n1_ n2_ n3_ n4_ n5_ n6_; clear hb hbox hg) | ((with_reducible refine gate_callee (f := 10) rfl ?_); refine goesL_ (some 10) rfl rfl Try.func10 (by kernel_rfl) rfl #[] rfl (by (try simp only [List.map_toArray, List.map_cons, List.map_nil]); first | done | rfl | (simp only [List.length_drop, List.length_take]; rfl)) ?_; (with_reducible refine (skiarealaw14_alive.calls k  true _ A4.out).mono ?_); rintro e w9 ⟨rfl, hb⟩; refine ⟨_, rfl, ?_⟩; have n0_ := Aside0.mk (bb_ BK332.out hb); have n1_ := Aside0.mk (bb_ BK333.out hb); have n2_ := Aside0.mk (below_step (by repeat (first | (with_reducible first | exact HB.out | apply below_alloc | apply pw_below_drewN | apply below_drew1 | refine below_set ?_ GE332.out | refine below_set ?_ GE333.out) | exact HB.out)) hb); clear BK332; clear BK333; clear HB; have BK332 := n0_; have BK333 := n1_; have HB := n2_; clear n0_ n1_ n2_; (try clear hb); (try clear hb2); (try clear hk); (try clear hi)))
  (try simp only [Act.put, List.setIfInBounds_toArray, List.set_cons_zero, List.set_cons_succ])
  go_cut [20] (fun v20 wc => ∃ (kq : Nat) (x20_5 : Bool), v20 = .bool x20_5 ∧ Aside0 (skiarealaw14_DriveValid.j0 kq l2 x20_5 a0_0 a0_1 a0_2 a0_3 a1_0 a1_1 a1_2 a1_3 = some r) ∧ Aside0 (kq ≤ k) ∧ Aside0 (wc.heap[gb332]? = some (.cells #[.int .i64 a0_0, .int .i64 a0_1, .int .i64 a0_2, .int .i64 a0_3] 23 (0, 0))) ∧ Aside0 (wc.heap[gb333]? = some (.cells #[.int .i64 a1_0, .int .i64 a1_1, .int .i64 a1_2, .int .i64 a1_3] 25 (0, 0))) ∧ Aside0 (Below w.heap.size w wc))
  case first =>
   have H := HC6.out
   clear HC6
   replace H := Option.bind_eq_some_iff.mp H
   obtain ⟨t335, A100, H⟩ := H
   replace H : (if t335 = true then (skiarealaw14_DriveValid.j0 k l2 (decide ((l2.length : Int) > 60)) a0_0 a0_1 a0_2 a0_3 a1_0 a1_1 a1_2 a1_3) else (skiarealaw14_DriveValid.j0 k l2 true a0_0 a0_1 a0_2 a0_3 a1_0 a1_1 a1_2 a1_3)) = some r := H
   have A10 := Aside0.mk A100
   clear A100
   by_cases c11 : t335 = true
   ·subst c11
    have H1 : (skiarealaw14_DriveValid.j0 k l2 (decide ((l2.length : Int) > 60)) a0_0 a0_1 a0_2 a0_3 a1_0 a1_1 a1_2 a1_3) = some r := by rw [if_pos rfl] at H; exact H
    clear H
    have H := H1
    clear H1
    have H' := Aside0.mk H
    clear H
    have hnb12 := NB332_333.out
    have hnc12 := NB333_332.out
    have hcz13_0 : w9.cell? ⟨gb332, 0, none⟩ = some (.int .i64 a0_0) := (blk_cell BK332.out 0).trans rfl
    have hcz13_1 : w9.cell? ⟨gb332, 1, none⟩ = some (.int .i64 a0_1) := (blk_cell BK332.out 1).trans rfl
    have hcz13_2 : w9.cell? ⟨gb332, 2, none⟩ = some (.int .i64 a0_2) := (blk_cell BK332.out 2).trans rfl
    have hcz13_3 : w9.cell? ⟨gb332, 3, none⟩ = some (.int .i64 a0_3) := (blk_cell BK332.out 3).trans rfl
    have hfz13_0 := blk_frozen BK332.out 0
    have hfz13_1 := blk_frozen BK332.out 1
    have hfz13_2 := blk_frozen BK332.out 2
    have hfz13_3 := blk_frozen BK332.out 3
    have hcz14_0 : w9.cell? ⟨gb333, 0, none⟩ = some (.int .i64 a1_0) := (blk_cell BK333.out 0).trans rfl
    have hcz14_1 : w9.cell? ⟨gb333, 1, none⟩ = some (.int .i64 a1_1) := (blk_cell BK333.out 1).trans rfl
    have hcz14_2 : w9.cell? ⟨gb333, 2, none⟩ = some (.int .i64 a1_2) := (blk_cell BK333.out 2).trans rfl
    have hcz14_3 : w9.cell? ⟨gb333, 3, none⟩ = some (.int .i64 a1_3) := (blk_cell BK333.out 3).trans rfl
    have hfz14_0 := blk_frozen BK333.out 0
    have hfz14_1 := blk_frozen BK333.out 1
    have hfz14_2 := blk_frozen BK333.out 2
    have hfz14_3 := blk_frozen BK333.out 3
    go_wp2_with (first | ((with_reducible refine gate_callee (f := 15) rfl ?_); refine goesL_ (some 14) rfl rfl Try.func15 (by kernel_rfl) rfl #[.agg #[.int .i64 a0_0, .int .i64 a0_1, .int .i64 a0_2, .int .i64 a0_3], .agg #[.int .i64 a1_0, .int .i64 a1_1, .int .i64 a1_2, .int .i64 a1_3]] rfl (by (try simp only [List.map_toArray, List.map_cons, List.map_nil]); first | done | rfl | (simp only [List.length_drop, List.length_take]; rfl)) ?_; (with_reducible refine (skiarealaw14_valid.calls k a0_0 a0_1 a0_2 a0_3 a1_0 a1_1 a1_2 a1_3 true _ A10.out).mono ?_); rintro e w15 ⟨rfl, hb⟩; refine ⟨_, rfl, ?_⟩; have n0_ := Aside0.mk (bb_ BK332.out hb); have n1_ := Aside0.mk (bb_ BK333.out hb); have n2_ := Aside0.mk (below_step (by repeat (first | (with_reducible first | exact HB.out | apply below_alloc | apply pw_below_drewN | apply below_drew1 | refine below_set ?_ GE332.out | refine below_set ?_ GE333.out) | exact HB.out)) hb); clear BK332; clear BK333; clear HB; have BK332 := n0_; have BK333 := n1_; have HB := n2_; clear n0_ n1_ n2_; (try clear hb); (try clear hb2); (try clear hk); (try clear hi)))
    go_meet
    case rel => exact ⟨_, (decide ((l2.length : Int) > 60)), (by first | rfl | (simp; done) | (simp [*]; done)), H', ⟨by first | omega | exact Nat.le_refl _⟩, ⟨by (with_reducible repeat (first | refine blk_drewN ?_ _ | refine blk_drew ?_ | refine blk_alloc ?_ _)); exact BK332.out⟩, ⟨by (with_reducible repeat (first | refine blk_drewN ?_ _ | refine blk_drew ?_ | refine blk_alloc ?_ _)); exact BK333.out⟩, ⟨by repeat (first | (with_reducible first | exact HB.out | apply below_alloc | apply pw_below_drewN | apply below_drew1 | refine below_set ?_ GE332.out | refine below_set ?_ GE333.out) | exact HB.out)⟩⟩
   ·replace c11 := Bool.eq_false_iff.mpr c11
    subst c11
    have H1 : (skiarealaw14_DriveValid.j0 k l2 true a0_0 a0_1 a0_2 a0_3 a1_0 a1_1 a1_2 a1_3) = some r := by rw [if_neg (show ¬ (false = true) by decide)] at H; exact H
    clear H
    have H := H1
    clear H1
    have H' := Aside0.mk H
    clear H
    have hnb16 := NB332_333.out
    have hnc16 := NB333_332.out
    have hcz17_0 : w9.cell? ⟨gb332, 0, none⟩ = some (.int .i64 a0_0) := (blk_cell BK332.out 0).trans rfl
    have hcz17_1 : w9.cell? ⟨gb332, 1, none⟩ = some (.int .i64 a0_1) := (blk_cell BK332.out 1).trans rfl
    have hcz17_2 : w9.cell? ⟨gb332, 2, none⟩ = some (.int .i64 a0_2) := (blk_cell BK332.out 2).trans rfl
    have hcz17_3 : w9.cell? ⟨gb332, 3, none⟩ = some (.int .i64 a0_3) := (blk_cell BK332.out 3).trans rfl
    have hfz17_0 := blk_frozen BK332.out 0
    have hfz17_1 := blk_frozen BK332.out 1
    have hfz17_2 := blk_frozen BK332.out 2
    have hfz17_3 := blk_frozen BK332.out 3
    have hcz18_0 : w9.cell? ⟨gb333, 0, none⟩ = some (.int .i64 a1_0) := (blk_cell BK333.out 0).trans rfl
    have hcz18_1 : w9.cell? ⟨gb333, 1, none⟩ = some (.int .i64 a1_1) := (blk_cell BK333.out 1).trans rfl
    have hcz18_2 : w9.cell? ⟨gb333, 2, none⟩ = some (.int .i64 a1_2) := (blk_cell BK333.out 2).trans rfl
    have hcz18_3 : w9.cell? ⟨gb333, 3, none⟩ = some (.int .i64 a1_3) := (blk_cell BK333.out 3).trans rfl
    have hfz18_0 := blk_frozen BK333.out 0
    have hfz18_1 := blk_frozen BK333.out 1
    have hfz18_2 := blk_frozen BK333.out 2
    have hfz18_3 := blk_frozen BK333.out 3
    go_wp2_with (first | ((with_reducible refine gate_callee (f := 15) rfl ?_); refine goesL_ (some 14) rfl rfl Try.func15 (by kernel_rfl) rfl #[.agg #[.int .i64 a0_0, .int .i64 a0_1, .int .i64 a0_2, .int .i64 a0_3], .agg #[.int .i64 a1_0, .int .i64 a1_1, .int .i64 a1_2, .int .i64 a1_3]] rfl (by (try simp only [List.map_toArray, List.map_cons, List.map_nil]); first | done | rfl | (simp only [List.length_drop, List.length_take]; rfl)) ?_; (with_reducible refine (skiarealaw14_valid.calls k a0_0 a0_1 a0_2 a0_3 a1_0 a1_1 a1_2 a1_3 false _ A10.out).mono ?_); rintro e w19 ⟨rfl, hb⟩; refine ⟨_, rfl, ?_⟩; have n0_ := Aside0.mk (bb_ BK332.out hb); have n1_ := Aside0.mk (bb_ BK333.out hb); have n2_ := Aside0.mk (below_step (by repeat (first | (with_reducible first | exact HB.out | apply below_alloc | apply pw_below_drewN | apply below_drew1 | refine below_set ?_ GE332.out | refine below_set ?_ GE333.out) | exact HB.out)) hb); clear BK332; clear BK333; clear HB; have BK332 := n0_; have BK333 := n1_; have HB := n2_; clear n0_ n1_ n2_; (try clear hb); (try clear hb2); (try clear hk); (try clear hi)))
    go_meet
    case rel => exact ⟨_, (true), (by first | rfl | (simp; done) | (simp [*]; done)), H', ⟨by first | omega | exact Nat.le_refl _⟩, ⟨by (with_reducible repeat (first | refine blk_drewN ?_ _ | refine blk_drew ?_ | refine blk_alloc ?_ _)); exact BK332.out⟩, ⟨by (with_reducible repeat (first | refine blk_drewN ?_ _ | refine blk_drew ?_ | refine blk_alloc ?_ _)); exact BK333.out⟩, ⟨by repeat (first | (with_reducible first | exact HB.out | apply below_alloc | apply pw_below_drewN | apply below_drew1 | refine below_set ?_ GE332.out | refine below_set ?_ GE333.out) | exact HB.out)⟩⟩
  case rest =>
   clear HC6
   try clear c1
   try clear c2
   try clear p2
   try clear c5
   try clear c9
   try clear c10
   try clear c11
   try clear c12
   try clear c15
   try clear c16
   try clear hcz13_0
   try clear hcz13_1
   try clear hcz13_2
   try clear hcz13_3
   try clear hcz14_0
   try clear hcz14_1
   try clear hcz14_2
   try clear hcz14_3
   try clear hcz17_0
   try clear hcz17_1
   try clear hcz17_2
   try clear hcz17_3
   try clear hcz18_0
   try clear hcz18_1
   try clear hcz18_2
   try clear hcz18_3
   try clear hfz13_0
   try clear hfz13_1
   try clear hfz13_2
   try clear hfz13_3
   try clear hfz14_0
   try clear hfz14_1
   try clear hfz14_2
   try clear hfz14_3
   try clear hfz17_0
   try clear hfz17_1
   try clear hfz17_2
   try clear hfz17_3
   try clear hfz18_0
   try clear hfz18_1
   try clear hfz18_2
   try clear hfz18_3
   obtain ⟨kq, x20_5, rfl, HA, HJ5, BK332, BK333, HB⟩ := hcut
   cases kq with
   | zero => exact absurd HA.out (by simp [skiarealaw14_DriveValid.j0])
   | succ kj5 =>
    have H := HA.out
    clear HA
    simp only [skiarealaw14_DriveValid.j0] at H
    by_cases c20 : x20_5 = true
    ·subst c20
     have H1 : (some true) = some r := by rw [if_pos rfl] at H; exact H
     clear H
     have H := H1
     clear H1
     obtain rfl := Option.some.inj H
     go_wp2
     go_ret
     exact ⟨by first | rfl | (simp [errW_none, errW_some] <;> rfl) | (simp [*, errW_none, errW_some] <;> rfl), by repeat (first | (with_reducible first | exact HB.out | apply below_alloc | apply pw_below_drewN | apply below_drew1 | refine below_set ?_ GE332.out | refine below_set ?_ GE333.out) | exact HB.out)⟩
    ·replace c20 := Bool.eq_false_iff.mpr c20
     subst c20
     have H1 : (skiarealaw14_DriveValid.l0 kj5 l2 0 a0_0 a0_1 a0_2 a0_3 a1_0 a1_1 a1_2 a1_3) = some r := by rw [if_neg (show ¬ (false = true) by decide)] at H; exact H
     clear H
     have H := H1
     clear H1
     have H' := Aside0.mk H
     clear H
     go_wp2
     go_loopg [7] kj5 (fun kq v7 w' => ∃ (x7_2 : Int) (x334000_2 : Int) (x334001_2 : Int) (x334002_2 : Int) (x334003_2 : Int), v7 = .int .i64 x7_2 ∧ Aside0 (skiarealaw14_DriveValid.l0 kq l2 x7_2 a0_0 a0_1 a0_2 a0_3 x334000_2 x334001_2 x334002_2 x334003_2 = some r) ∧ Aside0 (kq ≤ kj5) ∧ Aside0 (w'.heap[gb332]? = some (.cells #[.int .i64 a0_0, .int .i64 a0_1, .int .i64 a0_2, .int .i64 a0_3] 23 (0, 0))) ∧ Aside0 (w'.heap[gb333]? = some (.cells #[.int .i64 x334000_2, .int .i64 x334001_2, .int .i64 x334002_2, .int .i64 x334003_2] 25 (0, 0))) ∧ Aside0 (Below w.heap.size w w'))
     case atStart => exact ⟨(0), (a1_0), (a1_1), (a1_2), (a1_3), (by first | rfl | (simp; done) | (simp [*]; done)), H', ⟨Nat.le_refl _⟩, ⟨by (with_reducible repeat (first | refine blk_drewN ?_ _ | refine blk_drew ?_ | refine blk_alloc ?_ _)); exact BK332.out⟩, ⟨by (with_reducible repeat (first | refine blk_drewN ?_ _ | refine blk_drew ?_ | refine blk_alloc ?_ _)); exact BK333.out⟩, ⟨by repeat (first | (with_reducible first | exact HB.out | apply below_alloc | apply pw_below_drewN | apply below_drew1 | refine below_set ?_ GE332.out | refine below_set ?_ GE333.out) | exact HB.out)⟩⟩
     case round =>
      clear H'
      try clear c1
      try clear c2
      try clear p2
      try clear c5
      try clear c9
      try clear c10
      try clear c11
      try clear c12
      try clear c15
      try clear c16
      try clear c20
      try clear hcz13_0
      try clear hcz13_1
      try clear hcz13_2
      try clear hcz13_3
      try clear hcz14_0
      try clear hcz14_1
      try clear hcz14_2
      try clear hcz14_3
      try clear hcz17_0
      try clear hcz17_1
      try clear hcz17_2
      try clear hcz17_3
      try clear hcz18_0
      try clear hcz18_1
      try clear hcz18_2
      try clear hcz18_3
      try clear hfz13_0
      try clear hfz13_1
      try clear hfz13_2
      try clear hfz13_3
      try clear hfz14_0
      try clear hfz14_1
      try clear hfz14_2
      try clear hfz14_3
      try clear hfz17_0
      try clear hfz17_1
      try clear hfz17_2
      try clear hfz17_3
      try clear hfz18_0
      try clear hfz18_1
      try clear hfz18_2
      try clear hfz18_3
      try clear p2
      obtain ⟨x7_2, x334000_2, x334001_2, x334002_2, x334003_2, rfl, HA, HK2, BK332, BK333, HB⟩ := hrel
      cases gk with
      | zero => exact absurd HA.out (by simp [skiarealaw14_DriveValid.l0])
      | succ k2 =>
       have H := HA.out
       clear HA
       simp only [skiarealaw14_DriveValid.l0] at H
       by_cases c21 : x7_2 < (l2.length : Int)
       ·rw [if_pos c21] at H
        have c21b0 : decide (x7_2 < (l2.length : Int)) = true := decide_eq_true c21
        clear c21
        by_cases c22 : 0 ≤ x7_2
        ·rw [if_pos c22] at H
         have c22b0 : decide (0 ≤ x7_2) = true := decide_eq_true c22
         clear c22
         have HC23 := Aside0.mk H
         clear H
         have hnb24 := NB333_332.out
         have hnc24 := NB332_333.out
         have hcz25_0 : wr.cell? ⟨gb333, 0, none⟩ = some (.int .i64 x334000_2) := (blk_cell BK333.out 0).trans rfl
         have hcz25_1 : wr.cell? ⟨gb333, 1, none⟩ = some (.int .i64 x334001_2) := (blk_cell BK333.out 1).trans rfl
         have hcz25_2 : wr.cell? ⟨gb333, 2, none⟩ = some (.int .i64 x334002_2) := (blk_cell BK333.out 2).trans rfl
         have hcz25_3 : wr.cell? ⟨gb333, 3, none⟩ = some (.int .i64 x334003_2) := (blk_cell BK333.out 3).trans rfl
         have hfz25_0 := blk_frozen BK333.out 0
         have hfz25_1 := blk_frozen BK333.out 1
         have hfz25_2 := blk_frozen BK333.out 2
         have hfz25_3 := blk_frozen BK333.out 3
         go_upto_if 33 with (first | ((with_reducible refine gate_dst (N := 8) rfl ?_); (try (refine gate_guard (by rfl) ?_; dsimp only)); refine box_event ?hg (N := 8) ?hd (cs := #[.int .i64 0, .int .i64 0, .int .i64 0, .int .i64 0]) (t := 25) ?hr ?_; (case hd => rfl); (case hg => rfl); (case hr => first | (go_simp; done) | (go_simp; rfl)); intro gb336 hg w26 hbox hb; have n0_ := Aside0.mk (bb_ BK332.out hb); have n1_ := Aside0.mk (bb_ BK333.out hb); have n2_ := Aside0.mk (below_step (by repeat (first | (with_reducible first | exact HB.out | apply below_alloc | apply pw_below_drewN | apply below_drew1 | refine below_set ?_ GE332.out | refine below_set ?_ GE333.out) | exact HB.out)) hb); have n3_ := Aside0.mk (hbox); have n4_ := Aside0.mk ((by rw [hg]; exact (below_size (by repeat (first | (with_reducible first | exact HB.out | apply below_alloc | apply pw_below_drewN | apply below_drew1 | refine below_set ?_ GE332.out | refine below_set ?_ GE333.out) | exact HB.out))) : w.heap.size ≤ gb336)); have n5_ := Aside0.mk ((by rw [hg]; exact (below_size (by repeat (first | (with_reducible first | exact HB.out | apply below_alloc | apply pw_below_drewN | apply below_drew1 | refine below_set ?_ GE332.out | refine below_set ?_ GE333.out) | exact HB.out))) : w.heap.size ≤ gb336)); have n6_ := Aside0.mk ((by rw [hg]; exact Nat.ne_of_lt (blk_lt (g := gb332) (o := .cells #[.int .i64 a0_0, .int .i64 a0_1, .int .i64 a0_2, .int .i64 a0_3] 23 (0, 0)) (by (with_reducible repeat (first | refine blk_drewN ?_ _ | refine blk_drew ?_ | refine blk_alloc ?_ _)); exact BK332.out)) : gb332 ≠ gb336)); have n7_ := Aside0.mk ((by rw [hg]; exact Nat.ne_of_gt (blk_lt (g := gb332) (o := .cells #[.int .i64 a0_0, .int .i64 a0_1, .int .i64 a0_2, .int .i64 a0_3] 23 (0, 0)) (by (with_reducible repeat (first | refine blk_drewN ?_ _ | refine blk_drew ?_ | refine blk_alloc ?_ _)); exact BK332.out)) : gb336 ≠ gb332)); have n8_ := Aside0.mk ((by rw [hg]; exact Nat.ne_of_lt (blk_lt (g := gb333) (o := .cells #[.int .i64 x334000_2, .int .i64 x334001_2, .int .i64 x334002_2, .int .i64 x334003_2] 25 (0, 0)) (by (with_reducible repeat (first | refine blk_drewN ?_ _ | refine blk_drew ?_ | refine blk_alloc ?_ _)); exact BK333.out)) : gb333 ≠ gb336)); have n9_ := Aside0.mk ((by rw [hg]; exact Nat.ne_of_gt (blk_lt (g := gb333) (o := .cells #[.int .i64 x334000_2, .int .i64 x334001_2, .int .i64 x334002_2, .int .i64 x334003_2] 25 (0, 0)) (by (with_reducible repeat (first | refine blk_drewN ?_ _ | refine blk_drew ?_ | refine blk_alloc ?_ _)); exact BK333.out)) : gb336 ≠ gb333)); clear BK332; clear BK333; clear HB; have BK332 := n0_; have BK333 := n1_; have HB := n2_; have BK336 := n3_; have GW336 := n4_; have GE336 := n5_; have NB332_336 := n6_; have NB336_332 := n7_; have NB333_336 := n8_; have NB336_333 := n9_; clear n0_ n1_ n2_ n3_ n4_ n5_ n6_ n7_ n8_ n9_; clear hb hbox hg; have hnb27 := NB336_332.out; have hnc27 := NB332_336.out; have hnb28 := NB336_333.out; have hnc28 := NB333_336.out; have hcz29_0 : w26.cell? ⟨gb336, 0, none⟩ = some (.int .i64 0) := (blk_cell BK336.out 0).trans rfl; have hcz29_1 : w26.cell? ⟨gb336, 1, none⟩ = some (.int .i64 0) := (blk_cell BK336.out 1).trans rfl; have hcz29_2 : w26.cell? ⟨gb336, 2, none⟩ = some (.int .i64 0) := (blk_cell BK336.out 2).trans rfl; have hcz29_3 : w26.cell? ⟨gb336, 3, none⟩ = some (.int .i64 0) := (blk_cell BK336.out 3).trans rfl; have hfz29_0 := blk_frozen BK336.out 0; have hfz29_1 := blk_frozen BK336.out 1; have hfz29_2 := blk_frozen BK336.out 2; have hfz29_3 := blk_frozen BK336.out 3; have p337 : 0 ≤ (x7_2 : Int) := of_decide_eq_true (by first | (with_reducible assumption) | assumption); have q337 : x7_2 < (l2.length : Int) := of_decide_eq_true (by first | (with_reducible assumption) | assumption); obtain ⟨ad337, e337, hx337_0, hx337_1⟩ := at_T42 HR2.out x7_2 p337 q337; cases e337; have hn337_0 : ad337.block ≠ gb336 := Nat.ne_of_lt (Nat.lt_of_lt_of_le (by have := World.block_lt_of_cell? _ _ hx337_0; first | rwa [add_block] at this | exact this) GW336.out); have hn337_1 : ad337.block ≠ gb336 := Nat.ne_of_lt (Nat.lt_of_lt_of_le (by have := World.block_lt_of_cell? _ _ hx337_0; first | rwa [add_block] at this | exact this) GW336.out); have hn337_2 : ad337.block ≠ gb336 := Nat.ne_of_lt (Nat.lt_of_lt_of_le (by have := World.block_lt_of_cell? _ _ hx337_0; first | rwa [add_block] at this | exact this) GW336.out); have hn337_3 : ad337.block ≠ gb336 := Nat.ne_of_lt (Nat.lt_of_lt_of_le (by have := World.block_lt_of_cell? _ _ hx337_0; first | rwa [add_block] at this | exact this) GW336.out); replace hx337_0 := (HB.out.cell (World.block_lt_of_cell? w _ hx337_0)).trans hx337_0; replace hx337_1 := (HB.out.cell (World.block_lt_of_cell? w _ hx337_1)).trans hx337_1; replace hx337_0 := (cell_far (p := ⟨gb336, 0, none⟩) (by first | (rw [add_block]; exact hn337_0) | (show (Addr.add _ _).block ≠ _; rw [add_block]; exact hn337_0) | exact hn337_0) (.int .i64 x334000_2)).trans hx337_0; replace hx337_1 := (cell_far (p := ⟨gb336, 0, none⟩) (by first | (rw [add_block]; exact hn337_0) | (show (Addr.add _ _).block ≠ _; rw [add_block]; exact hn337_0) | exact hn337_0) (.int .i64 x334000_2)).trans hx337_1; replace hx337_0 := (cell_far (p := ⟨gb336, 1, none⟩) (by first | (rw [add_block]; exact hn337_1) | (show (Addr.add _ _).block ≠ _; rw [add_block]; exact hn337_1) | exact hn337_1) (.int .i64 x334001_2)).trans hx337_0; replace hx337_1 := (cell_far (p := ⟨gb336, 1, none⟩) (by first | (rw [add_block]; exact hn337_1) | (show (Addr.add _ _).block ≠ _; rw [add_block]; exact hn337_1) | exact hn337_1) (.int .i64 x334001_2)).trans hx337_1; replace hx337_0 := (cell_far (p := ⟨gb336, 2, none⟩) (by first | (rw [add_block]; exact hn337_2) | (show (Addr.add _ _).block ≠ _; rw [add_block]; exact hn337_2) | exact hn337_2) (.int .i64 x334002_2)).trans hx337_0; replace hx337_1 := (cell_far (p := ⟨gb336, 2, none⟩) (by first | (rw [add_block]; exact hn337_2) | (show (Addr.add _ _).block ≠ _; rw [add_block]; exact hn337_2) | exact hn337_2) (.int .i64 x334002_2)).trans hx337_1; replace hx337_0 := (cell_far (p := ⟨gb336, 3, none⟩) (by first | (rw [add_block]; exact hn337_3) | (show (Addr.add _ _).block ≠ _; rw [add_block]; exact hn337_3) | exact hn337_3) (.int .i64 x334003_2)).trans hx337_0; replace hx337_1 := (cell_far (p := ⟨gb336, 3, none⟩) (by first | (rw [add_block]; exact hn337_3) | (show (Addr.add _ _).block ≠ _; rw [add_block]; exact hn337_3) | exact hn337_3) (.int .i64 x334003_2)).trans hx337_1; clear hn337_0; clear hn337_1; clear hn337_2; clear hn337_3; replace p337 := eq_true p337; replace q337 := eq_true q337))
         (try simp only [Act.put, List.setIfInBounds_toArray, List.set_cons_zero, List.set_cons_succ])
         go_cut [9] (fun v9 wc => ∃ (kq : Nat) (x9_22 : Int) (x337000_22 : Int) (x337001_22 : Int) (x337002_22 : Int) (x337003_22 : Int), v9 = .int .i64 x9_22 ∧ Aside0 (skiarealaw14_DriveValid.j2 kq l2 x7_2 x9_22 a0_0 a0_1 a0_2 a0_3 x334000_2 x334001_2 x334002_2 x334003_2 x337000_22 x337001_22 x337002_22 x337003_22 = some r) ∧ Aside0 (kq ≤ k2) ∧ Aside0 (wc.heap[gb332]? = some (.cells #[.int .i64 a0_0, .int .i64 a0_1, .int .i64 a0_2, .int .i64 a0_3] 23 (0, 0))) ∧ Aside0 (wc.heap[gb333]? = some (.cells #[.int .i64 x334000_2, .int .i64 x334001_2, .int .i64 x334002_2, .int .i64 x334003_2] 25 (0, 0))) ∧ Aside0 (wc.heap[gb336]? = some (.cells #[.int .i64 x337000_22, .int .i64 x337001_22, .int .i64 x337002_22, .int .i64 x337003_22] 25 (0, 0))) ∧ Aside0 (Below w.heap.size w wc))
         case first =>
          have H := HC23.out
          clear HC23
          by_cases c30 : ((rd_T42 l2 x7_2).f0) = 0
          ·rw [if_pos c30] at H
           have c30b0 : (((rd_T42 l2 x7_2).f0) == 0) = true := beq_iff_eq.mpr c30
           have c30b1 : (((rd_T42 l2 x7_2).f0) != 0) = false := bne_eq_false_iff_eq.mpr c30
           clear c30
           (first | rw [c30b0] | (simp only [i64_w, i32_w]; rw [c30b0]) | skip)
           replace H := Option.bind_eq_some_iff.mp H
           obtain ⟨⟨t339, t340, t341, t342, t343⟩, A310, H⟩ := H
           replace H : (skiarealaw14_DriveValid.j2 k2 l2 x7_2 t343 a0_0 a0_1 a0_2 a0_3 x334000_2 x334001_2 x334002_2 x334003_2 t339 t340 t341 t342) = some r := H
           have A31 := Aside0.mk A310
           clear A310
           have H' := Aside0.mk H
           clear H
           try go_wp2
           have n0_ : Aside0 (((((w26.setCell ⟨gb336, 0, none⟩ (.int .i64 x334000_2)).setCell ⟨gb336, 1, none⟩ (.int .i64 x334001_2)).setCell ⟨gb336, 2, none⟩ (.int .i64 x334002_2)).setCell ⟨gb336, 3, none⟩ (.int .i64 x334003_2)).heap[gb332]? = some (.cells #[.int .i64 a0_0, .int .i64 a0_1, .int .i64 a0_2, .int .i64 a0_3] 23 (0, 0))) := ⟨by (with_reducible repeat (first | refine blk_drewN ?_ _ | refine blk_drew ?_ | refine blk_alloc ?_ _)); refine blk_far ?_ NB332_336.out _; (with_reducible repeat (first | refine blk_drewN ?_ _ | refine blk_drew ?_ | refine blk_alloc ?_ _)); refine blk_far ?_ NB332_336.out _; (with_reducible repeat (first | refine blk_drewN ?_ _ | refine blk_drew ?_ | refine blk_alloc ?_ _)); refine blk_far ?_ NB332_336.out _; (with_reducible repeat (first | refine blk_drewN ?_ _ | refine blk_drew ?_ | refine blk_alloc ?_ _)); refine blk_far ?_ NB332_336.out _; (with_reducible repeat (first | refine blk_drewN ?_ _ | refine blk_drew ?_ | refine blk_alloc ?_ _)); exact BK332.out⟩
           have n1_ : Aside0 (((((w26.setCell ⟨gb336, 0, none⟩ (.int .i64 x334000_2)).setCell ⟨gb336, 1, none⟩ (.int .i64 x334001_2)).setCell ⟨gb336, 2, none⟩ (.int .i64 x334002_2)).setCell ⟨gb336, 3, none⟩ (.int .i64 x334003_2)).heap[gb333]? = some (.cells #[.int .i64 x334000_2, .int .i64 x334001_2, .int .i64 x334002_2, .int .i64 x334003_2] 25 (0, 0))) := ⟨by (with_reducible repeat (first | refine blk_drewN ?_ _ | refine blk_drew ?_ | refine blk_alloc ?_ _)); refine blk_far ?_ NB333_336.out _; (with_reducible repeat (first | refine blk_drewN ?_ _ | refine blk_drew ?_ | refine blk_alloc ?_ _)); refine blk_far ?_ NB333_336.out _; (with_reducible repeat (first | refine blk_drewN ?_ _ | refine blk_drew ?_ | refine blk_alloc ?_ _)); refine blk_far ?_ NB333_336.out _; (with_reducible repeat (first | refine blk_drewN ?_ _ | refine blk_drew ?_ | refine blk_alloc ?_ _)); refine blk_far ?_ NB333_336.out _; (with_reducible repeat (first | refine blk_drewN ?_ _ | refine blk_drew ?_ | refine blk_alloc ?_ _)); exact BK333.out⟩
           have n2_ : Aside0 (((((w26.setCell ⟨gb336, 0, none⟩ (.int .i64 x334000_2)).setCell ⟨gb336, 1, none⟩ (.int .i64 x334001_2)).setCell ⟨gb336, 2, none⟩ (.int .i64 x334002_2)).setCell ⟨gb336, 3, none⟩ (.int .i64 x334003_2)).heap[gb336]? = some (.cells #[.int .i64 x334000_2, .int .i64 x334001_2, .int .i64 x334002_2, .int .i64 x334003_2] 25 (0, 0))) := ⟨by (with_reducible repeat (first | refine blk_drewN ?_ _ | refine blk_drew ?_ | refine blk_alloc ?_ _)); refine blk_put (cs := #[.int .i64 x334000_2, .int .i64 x334001_2, .int .i64 x334002_2, .int .i64 0]) ?_ 3 _ rfl; (with_reducible repeat (first | refine blk_drewN ?_ _ | refine blk_drew ?_ | refine blk_alloc ?_ _)); refine blk_put (cs := #[.int .i64 x334000_2, .int .i64 x334001_2, .int .i64 0, .int .i64 0]) ?_ 2 _ rfl; (with_reducible repeat (first | refine blk_drewN ?_ _ | refine blk_drew ?_ | refine blk_alloc ?_ _)); refine blk_put (cs := #[.int .i64 x334000_2, .int .i64 0, .int .i64 0, .int .i64 0]) ?_ 1 _ rfl; (with_reducible repeat (first | refine blk_drewN ?_ _ | refine blk_drew ?_ | refine blk_alloc ?_ _)); refine blk_put (cs := #[.int .i64 0, .int .i64 0, .int .i64 0, .int .i64 0]) ?_ 0 _ rfl; (with_reducible repeat (first | refine blk_drewN ?_ _ | refine blk_drew ?_ | refine blk_alloc ?_ _)); exact BK336.out⟩
           have n3_ : Aside0 (Below w.heap.size w ((((w26.setCell ⟨gb336, 0, none⟩ (.int .i64 x334000_2)).setCell ⟨gb336, 1, none⟩ (.int .i64 x334001_2)).setCell ⟨gb336, 2, none⟩ (.int .i64 x334002_2)).setCell ⟨gb336, 3, none⟩ (.int .i64 x334003_2))) := ⟨by repeat (first | (with_reducible first | exact HB.out | apply below_alloc | apply pw_below_drewN | apply below_drew1 | refine below_set ?_ GE332.out | refine below_set ?_ GE333.out | refine below_set ?_ GE336.out) | exact HB.out)⟩
           (try clear BK332)
           (try clear BK333)
           (try clear BK336)
           (try clear HB)
           generalize ((((w26.setCell ⟨gb336, 0, none⟩ (.int .i64 x334000_2)).setCell ⟨gb336, 1, none⟩ (.int .i64 x334001_2)).setCell ⟨gb336, 2, none⟩ (.int .i64 x334002_2)).setCell ⟨gb336, 3, none⟩ (.int .i64 x334003_2)) = w32 at n0_ n1_ n2_ n3_ ⊢
           have BK332 := n0_
           have BK333 := n1_
           have BK336 := n2_
           have HB := n3_
           clear n0_ n1_ n2_ n3_
           have n0_ := Aside0.mk (blk_drew BK332.out)
           have n1_ := Aside0.mk (blk_drew BK333.out)
           have n2_ := Aside0.mk (blk_drew BK336.out)
           have n3_ := Aside0.mk (below_drew1 HB.out)
           clear BK332
           clear BK333
           clear BK336
           clear HB
           have BK332 := n0_
           have BK333 := n1_
           have BK336 := n2_
           have HB := n3_
           clear n0_ n1_ n2_ n3_
           have p338 : 0 ≤ (x7_2 : Int) := of_decide_eq_true (by first | (with_reducible assumption) | assumption)
           have q338 : x7_2 < (l2.length : Int) := of_decide_eq_true (by first | (with_reducible assumption) | assumption)
           obtain ⟨ad338, e338, hx338_0, hx338_1⟩ := at_T42 HR2.out x7_2 p338 q338
           have hw338_1 := hx338_1
           have hw338_0 := hx338_0
           obtain rfl : ad337 = ad338 := (by injection e338)
           replace hx338_0 := (HB.out.cell (World.block_lt_of_cell? w _ hx338_0)).trans hx338_0
           replace hx338_1 := (HB.out.cell (World.block_lt_of_cell? w _ hx338_1)).trans hx338_1
           replace p338 := eq_true p338
           replace q338 := eq_true q338
           refine start_ (n := 13) (S := fun w' => w'.cell? ⟨gb332, 0, none⟩ = some (.int .i64 a0_0) ∧ w'.cell? ⟨gb332, 1, none⟩ = some (.int .i64 a0_1) ∧ w'.cell? ⟨gb332, 2, none⟩ = some (.int .i64 a0_2) ∧ w'.cell? ⟨gb332, 3, none⟩ = some (.int .i64 a0_3) ∧ w'.cell? ⟨gb333, 0, none⟩ = some (.int .i64 x334000_2) ∧ w'.cell? ⟨gb333, 1, none⟩ = some (.int .i64 x334001_2) ∧ w'.cell? ⟨gb333, 2, none⟩ = some (.int .i64 x334002_2) ∧ w'.cell? ⟨gb333, 3, none⟩ = some (.int .i64 x334003_2) ∧ w'.cell? (ad337.add ((x7_2).toNat * 2)) = some (.int .i64 ((rd_T42 l2 x7_2).f0)) ∧ w'.cell? ⟨(ad337.add ((x7_2).toNat * 2)).block, (ad337.add ((x7_2).toNat * 2)).off + 1, none⟩ = some (.int .i64 ((rd_T42 l2 x7_2).f1))) (ds := []) #[false, false, false, false, false, false, false, false, false, false, false, false, false] (by kernel_rfl) rfl rfl ⟨(blk_cell BK332.out 0).trans rfl, (blk_cell BK332.out 1).trans rfl, (blk_cell BK332.out 2).trans rfl, (blk_cell BK332.out 3).trans rfl, (blk_cell BK333.out 0).trans rfl, (blk_cell BK333.out 1).trans rfl, (blk_cell BK333.out 2).trans rfl, (blk_cell BK333.out 3).trans rfl, ((HB.out.cell (World.block_lt_of_cell? w _ hw338_0)).trans hw338_0), ((HB.out.cell (World.block_lt_of_cell? w _ hw338_1)).trans hw338_1)⟩ (fun hHeld => ?_); refine with_tabW skiarealaw14_DriveValid.tab10 skiarealaw14_DriveValid.bits10 (fun HT_ HW_ => ?_)
           generalize w32.drew = w33 at BK332 BK333 BK336 HB hx338_0 hx338_1 hHeld ⊢
           refine pure_ (i := 2) (N := some 37) (v := ?_) (a' := ?_) #[false, false, true, false, false, false, false, false, false, false, false, false, false] rfl rfl (any_of HT_.out (by kernel_rfl)) (fun _ _ _ h => h) (Or.inl ⟨by rfl, ?_⟩) ?_ ?_
           rotate_left
           ·intro w'
            go_simp
            with_reducible rfl
           rotate_left
           ·simp only [Act.put, List.setIfInBounds_toArray, List.set_cons_zero, List.set_cons_succ, i64_w, i32_w]
            rfl
           refine pure_ (i := 3) (N := some 38) (v := ?_) (a' := ?_) #[false, false, true, true, false, false, false, false, false, false, false, false, false] rfl rfl (any_of HT_.out (by kernel_rfl)) (fun _ _ _ h => h) (Or.inl ⟨by rfl, ?_⟩) ?_ ?_
           rotate_left
           ·intro w'
            go_simp
            with_reducible rfl
           rotate_left
           ·simp only [Act.put, List.setIfInBounds_toArray, List.set_cons_zero, List.set_cons_succ, i64_w, i32_w]
            rfl
           refine pure_ (i := 4) (N := some 39) (v := ?_) (a' := ?_) #[false, false, true, true, true, false, false, false, false, false, false, false, false] rfl rfl (any_of HT_.out (by kernel_rfl)) (fun _ _ _ h => h) (Or.inl ⟨by rfl, ?_⟩) ?_ ?_
           rotate_left
           ·intro w'
            go_simp
            with_reducible rfl
           rotate_left
           ·simp only [Act.put, List.setIfInBounds_toArray, List.set_cons_zero, List.set_cons_succ, i64_w, i32_w]
            rfl
           refine pure_ (i := 5) (N := some 40) (v := ?_) (a' := ?_) #[false, false, true, true, true, true, false, false, false, false, false, false, false] rfl rfl (any_of HT_.out (by kernel_rfl)) (fun _ _ _ h => h) (Or.inl ⟨by rfl, ?_⟩) ?_ ?_
           rotate_left
           ·intro w'
            go_simp
            with_reducible rfl
           rotate_left
           ·simp only [Act.put, List.setIfInBounds_toArray, List.set_cons_zero, List.set_cons_succ, i64_w, i32_w]
            rfl
           refine take_ (i := 0) (N := some 35) (v := ?_) (a' := ?_) #[true, false, true, true, true, true, false, false, false, false, false, false, false] rfl rfl (take_ofW HT_.out HW_.out (by kernel_rfl)) (fun _ _ _ h => h) (Or.inl ⟨by rfl, ?_⟩) hHeld ?_ ?_
           rotate_left
           ·rintro w' ⟨s0, s1, s2, s3, s4, s5, s6, s7, s8, s9⟩
            go_simp
            with_reducible rfl
           rotate_left
           ·simp only [Act.put, List.setIfInBounds_toArray, List.set_cons_zero, List.set_cons_succ, i64_w, i32_w]
            rfl
           refine take_ (i := 1) (N := some 36) (v := ?_) (a' := ?_) #[true, true, true, true, true, true, false, false, false, false, false, false, false] rfl rfl (take_ofW HT_.out HW_.out (by kernel_rfl)) (fun _ _ _ h => h) (Or.inl ⟨by rfl, ?_⟩) hHeld ?_ ?_
           rotate_left
           ·rintro w' ⟨s0, s1, s2, s3, s4, s5, s6, s7, s8, s9⟩
            go_simp
            with_reducible rfl
           rotate_left
           ·simp only [Act.put, List.setIfInBounds_toArray, List.set_cons_zero, List.set_cons_succ, i64_w, i32_w]
            rfl
           refine take_ (i := 6) (N := some 41) (v := ?_) (a' := ?_) #[true, true, true, true, true, true, true, false, false, false, false, false, false] rfl rfl (take_ofW HT_.out HW_.out (by kernel_rfl)) (fun _ _ _ h => h) (Or.inl ⟨by rfl, ?_⟩) hHeld ?_ ?_
           rotate_left
           ·rintro w' ⟨s0, s1, s2, s3, s4, s5, s6, s7, s8, s9⟩
            go_simp
            with_reducible rfl
           rotate_left
           ·simp only [Act.put, List.setIfInBounds_toArray, List.set_cons_zero, List.set_cons_succ, i64_w, i32_w]
            rfl
           refine one_ (i := 7) (N := some 42) #[true, true, true, true, true, true, true, true, false, false, false, false, false] rfl rfl (one_of HT_.out (by kernel_rfl)) (by decide) (fun K hK => ?_)
           refine goes_ Try.func16 (by kernel_rfl) rfl #[.agg #[.int .i64 a0_0, .int .i64 a0_1, .int .i64 a0_2, .int .i64 a0_3], .agg #[.int .i64 x334000_2, .int .i64 x334001_2, .int .i64 x334002_2, .int .i64 x334003_2], .int .i64 ((rd_T42 l2 x7_2).f1)] (by rfl) rfl rfl (by (try simp only [List.map_toArray, List.map_cons, List.map_nil]); first | done | rfl | (simp only [List.length_drop, List.length_take]; rfl)) ?_
           with_reducible refine (drive_Start.calls k2 a0_0 a0_1 a0_2 a0_3 x334000_2 x334001_2 x334002_2 x334003_2 ((rd_T42 l2 x7_2).f1) t339 t340 t341 t342 t343 _ A31.out).mono ?_
           rintro e w34 ⟨rfl, hb⟩
           refine ⟨_, rfl, ?_⟩
           have n0_ := Aside0.mk (bb_ BK332.out hb)
           have n1_ := Aside0.mk (bb_ BK333.out hb)
           have n2_ := Aside0.mk (bb_ BK336.out hb)
           have n3_ := Aside0.mk (below_step (by repeat (first | (with_reducible first | exact HB.out | apply below_alloc | apply pw_below_drewN | apply below_drew1 | refine below_set ?_ GE332.out | refine below_set ?_ GE333.out | refine below_set ?_ GE336.out) | exact HB.out)) hb)
           clear BK332
           clear BK333
           clear BK336
           clear HB
           have BK332 := n0_
           have BK333 := n1_
           have BK336 := n2_
           have HB := n3_
           clear n0_ n1_ n2_ n3_
           (try clear hb)
           (try clear hb2)
           (try clear hk)
           (try clear hi)
           refine hK.out _ _ ⟨(blk_cell BK332.out 0).trans rfl, (blk_cell BK332.out 1).trans rfl, (blk_cell BK332.out 2).trans rfl, (blk_cell BK332.out 3).trans rfl, (blk_cell BK333.out 0).trans rfl, (blk_cell BK333.out 1).trans rfl, (blk_cell BK333.out 2).trans rfl, (blk_cell BK333.out 3).trans rfl, ((HB.out.cell (World.block_lt_of_cell? w _ hw338_0)).trans hw338_0), ((HB.out.cell (World.block_lt_of_cell? w _ hw338_1)).trans hw338_1)⟩ (fun hHeld => ?_)
           clear hK K
           refine norm_ (a' := ?_) ?_ ?_
           rotate_left
           ·show Act.put _ (some 42) _ = _
            simp only [Act.put, List.setIfInBounds_toArray, List.set_cons_zero, List.set_cons_succ, i64_w, i32_w]
            rfl
           refine pure_ (i := 8) (N := some 34) (v := ?_) (a' := ?_) #[true, true, true, true, true, true, true, true, true, false, false, false, false] rfl rfl (any_of HT_.out (by kernel_rfl)) (fun _ _ _ h => h) (Or.inl ⟨by rfl, ?_⟩) ?_ ?_
           rotate_left
           ·intro w'
            go_simp
            with_reducible rfl
           rotate_left
           ·simp only [Act.put, List.setIfInBounds_toArray, List.set_cons_zero, List.set_cons_succ, i64_w, i32_w]
            rfl
           refine pure_ (i := 9) (N := some 43) (v := ?_) (a' := ?_) #[true, true, true, true, true, true, true, true, true, true, false, false, false] rfl rfl (any_of HT_.out (by kernel_rfl)) (fun _ _ _ h => h) (Or.inl ⟨by rfl, ?_⟩) ?_ ?_
           rotate_left
           ·intro w'
            go_simp
            with_reducible rfl
           rotate_left
           ·simp only [Act.put, List.setIfInBounds_toArray, List.set_cons_zero, List.set_cons_succ, i64_w, i32_w]
            rfl
           refine pure_ (i := 10) (N := some 44) (v := ?_) (a' := ?_) #[true, true, true, true, true, true, true, true, true, true, true, false, false] rfl rfl (any_of HT_.out (by kernel_rfl)) (fun _ _ _ h => h) (Or.inl ⟨by rfl, ?_⟩) ?_ ?_
           rotate_left
           ·intro w'
            go_simp
            with_reducible rfl
           rotate_left
           ·simp only [Act.put, List.setIfInBounds_toArray, List.set_cons_zero, List.set_cons_succ, i64_w, i32_w]
            rfl
           refine one_ (i := 11) (N := none) #[true, true, true, true, true, true, true, true, true, true, true, true, false] rfl rfl (one_of HT_.out (by kernel_rfl)) (by decide) (fun K hK => ?_)
           have hs35 : w34.cell? ⟨gb336, 0, none⟩ = some (.int .i64 x334000_2) := (blk_cell BK336.out 0).trans rfl
           have hfs35 := blk_frozen BK336.out 0
           have hns35_0 := NB332_336.out
           have hns35_1 := NB333_336.out
           have hms35_0 := NB336_332.out
           have hms35_1 := NB336_333.out
           have hs36 : w34.cell? ⟨gb336, 1, none⟩ = some (.int .i64 x334001_2) := (blk_cell BK336.out 1).trans rfl
           have hfs36 := blk_frozen BK336.out 1
           have hns36_0 := NB332_336.out
           have hns36_1 := NB333_336.out
           have hms36_0 := NB336_332.out
           have hms36_1 := NB336_333.out
           have hs37 : w34.cell? ⟨gb336, 2, none⟩ = some (.int .i64 x334002_2) := (blk_cell BK336.out 2).trans rfl
           have hfs37 := blk_frozen BK336.out 2
           have hns37_0 := NB332_336.out
           have hns37_1 := NB333_336.out
           have hms37_0 := NB336_332.out
           have hms37_1 := NB336_333.out
           have hs38 : w34.cell? ⟨gb336, 3, none⟩ = some (.int .i64 x334003_2) := (blk_cell BK336.out 3).trans rfl
           have hfs38 := blk_frozen BK336.out 3
           have hns38_0 := NB332_336.out
           have hns38_1 := NB333_336.out
           have hms38_0 := NB336_332.out
           have hms38_1 := NB336_333.out
           refine skip_ (w1 := ?_) (by rfl) rfl ?_ ?_
           rotate_left
           ·go_simp
            rfl
           refine hK.out _ _ ⟨((cell_far (p := ⟨gb336, _, none⟩) NB332_336.out _).trans (((cell_far (p := ⟨gb336, _, none⟩) NB332_336.out _).trans (((cell_far (p := ⟨gb336, _, none⟩) NB332_336.out _).trans (((cell_far (p := ⟨gb336, _, none⟩) NB332_336.out _).trans (hHeld.1)))))))), ((cell_far (p := ⟨gb336, _, none⟩) NB332_336.out _).trans (((cell_far (p := ⟨gb336, _, none⟩) NB332_336.out _).trans (((cell_far (p := ⟨gb336, _, none⟩) NB332_336.out _).trans (((cell_far (p := ⟨gb336, _, none⟩) NB332_336.out _).trans (hHeld.2.1)))))))), ((cell_far (p := ⟨gb336, _, none⟩) NB332_336.out _).trans (((cell_far (p := ⟨gb336, _, none⟩) NB332_336.out _).trans (((cell_far (p := ⟨gb336, _, none⟩) NB332_336.out _).trans (((cell_far (p := ⟨gb336, _, none⟩) NB332_336.out _).trans (hHeld.2.2.1)))))))), ((cell_far (p := ⟨gb336, _, none⟩) NB332_336.out _).trans (((cell_far (p := ⟨gb336, _, none⟩) NB332_336.out _).trans (((cell_far (p := ⟨gb336, _, none⟩) NB332_336.out _).trans (((cell_far (p := ⟨gb336, _, none⟩) NB332_336.out _).trans (hHeld.2.2.2.1)))))))), ((cell_far (p := ⟨gb336, _, none⟩) NB333_336.out _).trans (((cell_far (p := ⟨gb336, _, none⟩) NB333_336.out _).trans (((cell_far (p := ⟨gb336, _, none⟩) NB333_336.out _).trans (((cell_far (p := ⟨gb336, _, none⟩) NB333_336.out _).trans (hHeld.2.2.2.2.1)))))))), ((cell_far (p := ⟨gb336, _, none⟩) NB333_336.out _).trans (((cell_far (p := ⟨gb336, _, none⟩) NB333_336.out _).trans (((cell_far (p := ⟨gb336, _, none⟩) NB333_336.out _).trans (((cell_far (p := ⟨gb336, _, none⟩) NB333_336.out _).trans (hHeld.2.2.2.2.2.1)))))))), ((cell_far (p := ⟨gb336, _, none⟩) NB333_336.out _).trans (((cell_far (p := ⟨gb336, _, none⟩) NB333_336.out _).trans (((cell_far (p := ⟨gb336, _, none⟩) NB333_336.out _).trans (((cell_far (p := ⟨gb336, _, none⟩) NB333_336.out _).trans (hHeld.2.2.2.2.2.2.1)))))))), ((cell_far (p := ⟨gb336, _, none⟩) NB333_336.out _).trans (((cell_far (p := ⟨gb336, _, none⟩) NB333_336.out _).trans (((cell_far (p := ⟨gb336, _, none⟩) NB333_336.out _).trans (((cell_far (p := ⟨gb336, _, none⟩) NB333_336.out _).trans (hHeld.2.2.2.2.2.2.2.1)))))))), ((cell_far (p := ⟨gb336, _, none⟩) (by first | exact Nat.ne_of_lt (Nat.lt_of_lt_of_le (by have := World.block_lt_of_cell? _ _ hw338_0; first | rwa [add_block] at this | exact this) GW336.out) | (rw [add_block]; exact Nat.ne_of_lt (Nat.lt_of_lt_of_le (by have := World.block_lt_of_cell? _ _ hw338_0; first | rwa [add_block] at this | exact this) GW336.out)) | (show (Addr.add _ _).block ≠ _; rw [add_block]; exact Nat.ne_of_lt (Nat.lt_of_lt_of_le (by have := World.block_lt_of_cell? _ _ hw338_0; first | rwa [add_block] at this | exact this) GW336.out)) | (dsimp only; exact Nat.ne_of_lt (Nat.lt_of_lt_of_le (by have := World.block_lt_of_cell? _ _ hw338_0; first | rwa [add_block] at this | exact this) GW336.out))) _).trans (((cell_far (p := ⟨gb336, _, none⟩) (by first | exact Nat.ne_of_lt (Nat.lt_of_lt_of_le (by have := World.block_lt_of_cell? _ _ hw338_0; first | rwa [add_block] at this | exact this) GW336.out) | (rw [add_block]; exact Nat.ne_of_lt (Nat.lt_of_lt_of_le (by have := World.block_lt_of_cell? _ _ hw338_0; first | rwa [add_block] at this | exact this) GW336.out)) | (show (Addr.add _ _).block ≠ _; rw [add_block]; exact Nat.ne_of_lt (Nat.lt_of_lt_of_le (by have := World.block_lt_of_cell? _ _ hw338_0; first | rwa [add_block] at this | exact this) GW336.out)) | (dsimp only; exact Nat.ne_of_lt (Nat.lt_of_lt_of_le (by have := World.block_lt_of_cell? _ _ hw338_0; first | rwa [add_block] at this | exact this) GW336.out))) _).trans (((cell_far (p := ⟨gb336, _, none⟩) (by first | exact Nat.ne_of_lt (Nat.lt_of_lt_of_le (by have := World.block_lt_of_cell? _ _ hw338_0; first | rwa [add_block] at this | exact this) GW336.out) | (rw [add_block]; exact Nat.ne_of_lt (Nat.lt_of_lt_of_le (by have := World.block_lt_of_cell? _ _ hw338_0; first | rwa [add_block] at this | exact this) GW336.out)) | (show (Addr.add _ _).block ≠ _; rw [add_block]; exact Nat.ne_of_lt (Nat.lt_of_lt_of_le (by have := World.block_lt_of_cell? _ _ hw338_0; first | rwa [add_block] at this | exact this) GW336.out)) | (dsimp only; exact Nat.ne_of_lt (Nat.lt_of_lt_of_le (by have := World.block_lt_of_cell? _ _ hw338_0; first | rwa [add_block] at this | exact this) GW336.out))) _).trans (((cell_far (p := ⟨gb336, _, none⟩) (by first | exact Nat.ne_of_lt (Nat.lt_of_lt_of_le (by have := World.block_lt_of_cell? _ _ hw338_0; first | rwa [add_block] at this | exact this) GW336.out) | (rw [add_block]; exact Nat.ne_of_lt (Nat.lt_of_lt_of_le (by have := World.block_lt_of_cell? _ _ hw338_0; first | rwa [add_block] at this | exact this) GW336.out)) | (show (Addr.add _ _).block ≠ _; rw [add_block]; exact Nat.ne_of_lt (Nat.lt_of_lt_of_le (by have := World.block_lt_of_cell? _ _ hw338_0; first | rwa [add_block] at this | exact this) GW336.out)) | (dsimp only; exact Nat.ne_of_lt (Nat.lt_of_lt_of_le (by have := World.block_lt_of_cell? _ _ hw338_0; first | rwa [add_block] at this | exact this) GW336.out))) _).trans (hHeld.2.2.2.2.2.2.2.2.1)))))))), ((cell_far (p := ⟨gb336, _, none⟩) (by first | exact Nat.ne_of_lt (Nat.lt_of_lt_of_le (by have := World.block_lt_of_cell? _ _ hw338_1; first | rwa [add_block] at this | exact this) GW336.out) | (rw [add_block]; exact Nat.ne_of_lt (Nat.lt_of_lt_of_le (by have := World.block_lt_of_cell? _ _ hw338_1; first | rwa [add_block] at this | exact this) GW336.out)) | (show (Addr.add _ _).block ≠ _; rw [add_block]; exact Nat.ne_of_lt (Nat.lt_of_lt_of_le (by have := World.block_lt_of_cell? _ _ hw338_1; first | rwa [add_block] at this | exact this) GW336.out)) | (dsimp only; exact Nat.ne_of_lt (Nat.lt_of_lt_of_le (by have := World.block_lt_of_cell? _ _ hw338_1; first | rwa [add_block] at this | exact this) GW336.out))) _).trans (((cell_far (p := ⟨gb336, _, none⟩) (by first | exact Nat.ne_of_lt (Nat.lt_of_lt_of_le (by have := World.block_lt_of_cell? _ _ hw338_1; first | rwa [add_block] at this | exact this) GW336.out) | (rw [add_block]; exact Nat.ne_of_lt (Nat.lt_of_lt_of_le (by have := World.block_lt_of_cell? _ _ hw338_1; first | rwa [add_block] at this | exact this) GW336.out)) | (show (Addr.add _ _).block ≠ _; rw [add_block]; exact Nat.ne_of_lt (Nat.lt_of_lt_of_le (by have := World.block_lt_of_cell? _ _ hw338_1; first | rwa [add_block] at this | exact this) GW336.out)) | (dsimp only; exact Nat.ne_of_lt (Nat.lt_of_lt_of_le (by have := World.block_lt_of_cell? _ _ hw338_1; first | rwa [add_block] at this | exact this) GW336.out))) _).trans (((cell_far (p := ⟨gb336, _, none⟩) (by first | exact Nat.ne_of_lt (Nat.lt_of_lt_of_le (by have := World.block_lt_of_cell? _ _ hw338_1; first | rwa [add_block] at this | exact this) GW336.out) | (rw [add_block]; exact Nat.ne_of_lt (Nat.lt_of_lt_of_le (by have := World.block_lt_of_cell? _ _ hw338_1; first | rwa [add_block] at this | exact this) GW336.out)) | (show (Addr.add _ _).block ≠ _; rw [add_block]; exact Nat.ne_of_lt (Nat.lt_of_lt_of_le (by have := World.block_lt_of_cell? _ _ hw338_1; first | rwa [add_block] at this | exact this) GW336.out)) | (dsimp only; exact Nat.ne_of_lt (Nat.lt_of_lt_of_le (by have := World.block_lt_of_cell? _ _ hw338_1; first | rwa [add_block] at this | exact this) GW336.out))) _).trans (((cell_far (p := ⟨gb336, _, none⟩) (by first | exact Nat.ne_of_lt (Nat.lt_of_lt_of_le (by have := World.block_lt_of_cell? _ _ hw338_1; first | rwa [add_block] at this | exact this) GW336.out) | (rw [add_block]; exact Nat.ne_of_lt (Nat.lt_of_lt_of_le (by have := World.block_lt_of_cell? _ _ hw338_1; first | rwa [add_block] at this | exact this) GW336.out)) | (show (Addr.add _ _).block ≠ _; rw [add_block]; exact Nat.ne_of_lt (Nat.lt_of_lt_of_le (by have := World.block_lt_of_cell? _ _ hw338_1; first | rwa [add_block] at this | exact this) GW336.out)) | (dsimp only; exact Nat.ne_of_lt (Nat.lt_of_lt_of_le (by have := World.block_lt_of_cell? _ _ hw338_1; first | rwa [add_block] at this | exact this) GW336.out))) _).trans (hHeld.2.2.2.2.2.2.2.2.2))))))))⟩ (fun hHeld => ?_)
           clear hK K
           refine pure_ (i := 12) (N := some 9) (v := ?_) (a' := ?_) #[true, true, true, true, true, true, true, true, true, true, true, true, true] rfl rfl (any_of HT_.out (by kernel_rfl)) (fun _ _ _ h => h) (Or.inl ⟨by rfl, ?_⟩) ?_ ?_
           rotate_left
           ·intro w'
            go_simp
            with_reducible rfl
           rotate_left
           ·simp only [Act.put, List.setIfInBounds_toArray, List.set_cons_zero, List.set_cons_succ, i64_w, i32_w]
            rfl
           refine done_ (done_of HT_.out (by kernel_rfl)) ?_
           try go_wp2
           go_meet
           case rel => exact ⟨_, (t343), (t339), (t340), (t341), (t342), (by first | rfl | (simp; done) | (simp [*]; done)), H', ⟨by have := HJ5.out; have := HK2.out; first | omega | exact Nat.le_refl _⟩, ⟨by (with_reducible repeat (first | refine blk_drewN ?_ _ | refine blk_drew ?_ | refine blk_alloc ?_ _)); refine blk_far ?_ NB332_336.out _; (with_reducible repeat (first | refine blk_drewN ?_ _ | refine blk_drew ?_ | refine blk_alloc ?_ _)); refine blk_far ?_ NB332_336.out _; (with_reducible repeat (first | refine blk_drewN ?_ _ | refine blk_drew ?_ | refine blk_alloc ?_ _)); refine blk_far ?_ NB332_336.out _; (with_reducible repeat (first | refine blk_drewN ?_ _ | refine blk_drew ?_ | refine blk_alloc ?_ _)); refine blk_far ?_ NB332_336.out _; (with_reducible repeat (first | refine blk_drewN ?_ _ | refine blk_drew ?_ | refine blk_alloc ?_ _)); exact BK332.out⟩, ⟨by (with_reducible repeat (first | refine blk_drewN ?_ _ | refine blk_drew ?_ | refine blk_alloc ?_ _)); refine blk_far ?_ NB333_336.out _; (with_reducible repeat (first | refine blk_drewN ?_ _ | refine blk_drew ?_ | refine blk_alloc ?_ _)); refine blk_far ?_ NB333_336.out _; (with_reducible repeat (first | refine blk_drewN ?_ _ | refine blk_drew ?_ | refine blk_alloc ?_ _)); refine blk_far ?_ NB333_336.out _; (with_reducible repeat (first | refine blk_drewN ?_ _ | refine blk_drew ?_ | refine blk_alloc ?_ _)); refine blk_far ?_ NB333_336.out _; (with_reducible repeat (first | refine blk_drewN ?_ _ | refine blk_drew ?_ | refine blk_alloc ?_ _)); exact BK333.out⟩, ⟨by (with_reducible repeat (first | refine blk_drewN ?_ _ | refine blk_drew ?_ | refine blk_alloc ?_ _)); refine blk_put (cs := #[.int .i64 t339, .int .i64 t340, .int .i64 t341, .int .i64 x334003_2]) ?_ 3 _ rfl; (with_reducible repeat (first | refine blk_drewN ?_ _ | refine blk_drew ?_ | refine blk_alloc ?_ _)); refine blk_put (cs := #[.int .i64 t339, .int .i64 t340, .int .i64 x334002_2, .int .i64 x334003_2]) ?_ 2 _ rfl; (with_reducible repeat (first | refine blk_drewN ?_ _ | refine blk_drew ?_ | refine blk_alloc ?_ _)); refine blk_put (cs := #[.int .i64 t339, .int .i64 x334001_2, .int .i64 x334002_2, .int .i64 x334003_2]) ?_ 1 _ rfl; (with_reducible repeat (first | refine blk_drewN ?_ _ | refine blk_drew ?_ | refine blk_alloc ?_ _)); refine blk_put (cs := #[.int .i64 x334000_2, .int .i64 x334001_2, .int .i64 x334002_2, .int .i64 x334003_2]) ?_ 0 _ rfl; (with_reducible repeat (first | refine blk_drewN ?_ _ | refine blk_drew ?_ | refine blk_alloc ?_ _)); exact BK336.out⟩, ⟨by repeat (first | (with_reducible first | exact HB.out | apply below_alloc | apply pw_below_drewN | apply below_drew1 | refine below_set ?_ GE332.out | refine below_set ?_ GE333.out | refine below_set ?_ GE336.out) | exact HB.out)⟩⟩
          ·rw [if_neg c30] at H
           have c30b0 : (((rd_T42 l2 x7_2).f0) == 0) = false := beq_eq_false_iff_ne.mpr c30
           have c30b1 : (((rd_T42 l2 x7_2).f0) != 0) = true := bne_iff_ne.mpr c30
           (first | rw [c30b0] | (simp only [i64_w, i32_w]; rw [c30b0]) | skip)
           by_cases c39 : ((rd_T42 l2 x7_2).f0) = 1
           ·rw [if_pos c39] at H
            have c39b0 : (((rd_T42 l2 x7_2).f0) == 1) = true := beq_iff_eq.mpr c39
            have c39b1 : (((rd_T42 l2 x7_2).f0) != 1) = false := bne_eq_false_iff_eq.mpr c39
            clear c39
            replace H := Option.bind_eq_some_iff.mp H
            obtain ⟨⟨t345, t346, t347, t348⟩, A400, H⟩ := H
            replace H : (skiarealaw14_DriveValid.j2 k2 l2 x7_2 0 a0_0 a0_1 a0_2 a0_3 x334000_2 x334001_2 x334002_2 x334003_2 t345 t346 t347 t348) = some r := H
            have A40 := Aside0.mk A400
            clear A400
            have H' := Aside0.mk H
            clear H
            have p344 : 0 ≤ (x7_2 : Int) := of_decide_eq_true (by first | (with_reducible assumption) | assumption)
            have q344 : x7_2 < (l2.length : Int) := of_decide_eq_true (by first | (with_reducible assumption) | assumption)
            obtain ⟨ad344, e344, hx344_0, hx344_1⟩ := at_T42 HR2.out x7_2 p344 q344
            obtain rfl : ad337 = ad344 := (by injection e344)
            have hn344_0 : ad337.block ≠ gb336 := Nat.ne_of_lt (Nat.lt_of_lt_of_le (by have := World.block_lt_of_cell? _ _ hx344_0; first | rwa [add_block] at this | exact this) GW336.out)
            have hn344_1 : ad337.block ≠ gb336 := Nat.ne_of_lt (Nat.lt_of_lt_of_le (by have := World.block_lt_of_cell? _ _ hx344_0; first | rwa [add_block] at this | exact this) GW336.out)
            have hn344_2 : ad337.block ≠ gb336 := Nat.ne_of_lt (Nat.lt_of_lt_of_le (by have := World.block_lt_of_cell? _ _ hx344_0; first | rwa [add_block] at this | exact this) GW336.out)
            have hn344_3 : ad337.block ≠ gb336 := Nat.ne_of_lt (Nat.lt_of_lt_of_le (by have := World.block_lt_of_cell? _ _ hx344_0; first | rwa [add_block] at this | exact this) GW336.out)
            replace hx344_0 := (HB.out.cell (World.block_lt_of_cell? w _ hx344_0)).trans hx344_0
            replace hx344_1 := (HB.out.cell (World.block_lt_of_cell? w _ hx344_1)).trans hx344_1
            replace hx344_0 := (cell_far (p := ⟨gb336, 0, none⟩) (by first | (rw [add_block]; exact hn344_0) | (show (Addr.add _ _).block ≠ _; rw [add_block]; exact hn344_0) | exact hn344_0) (.int .i64 x334000_2)).trans hx344_0
            replace hx344_1 := (cell_far (p := ⟨gb336, 0, none⟩) (by first | (rw [add_block]; exact hn344_0) | (show (Addr.add _ _).block ≠ _; rw [add_block]; exact hn344_0) | exact hn344_0) (.int .i64 x334000_2)).trans hx344_1
            replace hx344_0 := (cell_far (p := ⟨gb336, 1, none⟩) (by first | (rw [add_block]; exact hn344_1) | (show (Addr.add _ _).block ≠ _; rw [add_block]; exact hn344_1) | exact hn344_1) (.int .i64 x334001_2)).trans hx344_0
            replace hx344_1 := (cell_far (p := ⟨gb336, 1, none⟩) (by first | (rw [add_block]; exact hn344_1) | (show (Addr.add _ _).block ≠ _; rw [add_block]; exact hn344_1) | exact hn344_1) (.int .i64 x334001_2)).trans hx344_1
            replace hx344_0 := (cell_far (p := ⟨gb336, 2, none⟩) (by first | (rw [add_block]; exact hn344_2) | (show (Addr.add _ _).block ≠ _; rw [add_block]; exact hn344_2) | exact hn344_2) (.int .i64 x334002_2)).trans hx344_0
            replace hx344_1 := (cell_far (p := ⟨gb336, 2, none⟩) (by first | (rw [add_block]; exact hn344_2) | (show (Addr.add _ _).block ≠ _; rw [add_block]; exact hn344_2) | exact hn344_2) (.int .i64 x334002_2)).trans hx344_1
            replace hx344_0 := (cell_far (p := ⟨gb336, 3, none⟩) (by first | (rw [add_block]; exact hn344_3) | (show (Addr.add _ _).block ≠ _; rw [add_block]; exact hn344_3) | exact hn344_3) (.int .i64 x334003_2)).trans hx344_0
            replace hx344_1 := (cell_far (p := ⟨gb336, 3, none⟩) (by first | (rw [add_block]; exact hn344_3) | (show (Addr.add _ _).block ≠ _; rw [add_block]; exact hn344_3) | exact hn344_3) (.int .i64 x334003_2)).trans hx344_1
            clear hn344_0
            clear hn344_1
            clear hn344_2
            clear hn344_3
            replace p344 := eq_true p344
            replace q344 := eq_true q344
            have hnb41 := NB332_333.out
            have hnc41 := NB333_332.out
            have hnb42 := NB332_336.out
            have hnc42 := NB336_332.out
            have hcz43_0 : w26.cell? ⟨gb332, 0, none⟩ = some (.int .i64 a0_0) := (blk_cell BK332.out 0).trans rfl
            have hcz43_1 : w26.cell? ⟨gb332, 1, none⟩ = some (.int .i64 a0_1) := (blk_cell BK332.out 1).trans rfl
            have hcz43_2 : w26.cell? ⟨gb332, 2, none⟩ = some (.int .i64 a0_2) := (blk_cell BK332.out 2).trans rfl
            have hcz43_3 : w26.cell? ⟨gb332, 3, none⟩ = some (.int .i64 a0_3) := (blk_cell BK332.out 3).trans rfl
            have hfz43_0 := blk_frozen BK332.out 0
            have hfz43_1 := blk_frozen BK332.out 1
            have hfz43_2 := blk_frozen BK332.out 2
            have hfz43_3 := blk_frozen BK332.out 3
            have hnb44 := NB333_336.out
            have hnc44 := NB336_333.out
            have hcz45_0 : w26.cell? ⟨gb333, 0, none⟩ = some (.int .i64 x334000_2) := (blk_cell BK333.out 0).trans rfl
            have hcz45_1 : w26.cell? ⟨gb333, 1, none⟩ = some (.int .i64 x334001_2) := (blk_cell BK333.out 1).trans rfl
            have hcz45_2 : w26.cell? ⟨gb333, 2, none⟩ = some (.int .i64 x334002_2) := (blk_cell BK333.out 2).trans rfl
            have hcz45_3 : w26.cell? ⟨gb333, 3, none⟩ = some (.int .i64 x334003_2) := (blk_cell BK333.out 3).trans rfl
            have hfz45_0 := blk_frozen BK333.out 0
            have hfz45_1 := blk_frozen BK333.out 1
            have hfz45_2 := blk_frozen BK333.out 2
            have hfz45_3 := blk_frozen BK333.out 3
            go_wp2_with (first | ((with_reducible refine gate_callee (f := 20) rfl ?_); refine goesL_ (some 53) rfl rfl Try.func20 (by kernel_rfl) rfl #[.agg #[.int .i64 a0_0, .int .i64 a0_1, .int .i64 a0_2, .int .i64 a0_3], .agg #[.int .i64 x334000_2, .int .i64 x334001_2, .int .i64 x334002_2, .int .i64 x334003_2]] rfl (by (try simp only [List.map_toArray, List.map_cons, List.map_nil]); first | done | rfl | (simp only [List.length_drop, List.length_take]; rfl)) ?_; (with_reducible refine (drive_Halt.calls a0_0 a0_1 a0_2 a0_3 x334000_2 x334001_2 x334002_2 x334003_2 t345 t346 t347 t348 _ A40.out).mono ?_); rintro e w46 ⟨rfl, hb⟩; refine ⟨_, rfl, ?_⟩; have n0_ := Aside0.mk (blk_below (g := gb332) (o := .cells #[.int .i64 a0_0, .int .i64 a0_1, .int .i64 a0_2, .int .i64 a0_3] 23 (0, 0)) (by (with_reducible repeat (first | refine blk_drewN ?_ _ | refine blk_drew ?_ | refine blk_alloc ?_ _)); refine blk_far ?_ NB332_336.out _; (with_reducible repeat (first | refine blk_drewN ?_ _ | refine blk_drew ?_ | refine blk_alloc ?_ _)); refine blk_far ?_ NB332_336.out _; (with_reducible repeat (first | refine blk_drewN ?_ _ | refine blk_drew ?_ | refine blk_alloc ?_ _)); refine blk_far ?_ NB332_336.out _; (with_reducible repeat (first | refine blk_drewN ?_ _ | refine blk_drew ?_ | refine blk_alloc ?_ _)); refine blk_far ?_ NB332_336.out _; (with_reducible repeat (first | refine blk_drewN ?_ _ | refine blk_drew ?_ | refine blk_alloc ?_ _)); exact BK332.out) hb); have n1_ := Aside0.mk (blk_below (g := gb333) (o := .cells #[.int .i64 x334000_2, .int .i64 x334001_2, .int .i64 x334002_2, .int .i64 x334003_2] 25 (0, 0)) (by (with_reducible repeat (first | refine blk_drewN ?_ _ | refine blk_drew ?_ | refine blk_alloc ?_ _)); refine blk_far ?_ NB333_336.out _; (with_reducible repeat (first | refine blk_drewN ?_ _ | refine blk_drew ?_ | refine blk_alloc ?_ _)); refine blk_far ?_ NB333_336.out _; (with_reducible repeat (first | refine blk_drewN ?_ _ | refine blk_drew ?_ | refine blk_alloc ?_ _)); refine blk_far ?_ NB333_336.out _; (with_reducible repeat (first | refine blk_drewN ?_ _ | refine blk_drew ?_ | refine blk_alloc ?_ _)); refine blk_far ?_ NB333_336.out _; (with_reducible repeat (first | refine blk_drewN ?_ _ | refine blk_drew ?_ | refine blk_alloc ?_ _)); exact BK333.out) hb); have n2_ := Aside0.mk (blk_below (g := gb336) (o := .cells #[.int .i64 x334000_2, .int .i64 x334001_2, .int .i64 x334002_2, .int .i64 x334003_2] 25 (0, 0)) (by (with_reducible repeat (first | refine blk_drewN ?_ _ | refine blk_drew ?_ | refine blk_alloc ?_ _)); refine blk_put (cs := #[.int .i64 x334000_2, .int .i64 x334001_2, .int .i64 x334002_2, .int .i64 0]) ?_ 3 _ rfl; (with_reducible repeat (first | refine blk_drewN ?_ _ | refine blk_drew ?_ | refine blk_alloc ?_ _)); refine blk_put (cs := #[.int .i64 x334000_2, .int .i64 x334001_2, .int .i64 0, .int .i64 0]) ?_ 2 _ rfl; (with_reducible repeat (first | refine blk_drewN ?_ _ | refine blk_drew ?_ | refine blk_alloc ?_ _)); refine blk_put (cs := #[.int .i64 x334000_2, .int .i64 0, .int .i64 0, .int .i64 0]) ?_ 1 _ rfl; (with_reducible repeat (first | refine blk_drewN ?_ _ | refine blk_drew ?_ | refine blk_alloc ?_ _)); refine blk_put (cs := #[.int .i64 0, .int .i64 0, .int .i64 0, .int .i64 0]) ?_ 0 _ rfl; (with_reducible repeat (first | refine blk_drewN ?_ _ | refine blk_drew ?_ | refine blk_alloc ?_ _)); exact BK336.out) hb); have n3_ := Aside0.mk (below_step (by repeat (first | (with_reducible first | exact HB.out | apply below_alloc | apply pw_below_drewN | apply below_drew1 | refine below_set ?_ GE332.out | refine below_set ?_ GE333.out | refine below_set ?_ GE336.out) | exact HB.out)) hb); clear BK332; clear BK333; clear BK336; clear HB; have BK332 := n0_; have BK333 := n1_; have BK336 := n2_; have HB := n3_; clear n0_ n1_ n2_ n3_; (try clear hb); (try clear hb2); (try clear hk); (try clear hi); have hcz47_0 : w46.cell? ⟨gb336, 0, none⟩ = some (.int .i64 x334000_2) := (blk_cell BK336.out 0).trans rfl; have hcz47_1 : w46.cell? ⟨gb336, 1, none⟩ = some (.int .i64 x334001_2) := (blk_cell BK336.out 1).trans rfl; have hcz47_2 : w46.cell? ⟨gb336, 2, none⟩ = some (.int .i64 x334002_2) := (blk_cell BK336.out 2).trans rfl; have hcz47_3 : w46.cell? ⟨gb336, 3, none⟩ = some (.int .i64 x334003_2) := (blk_cell BK336.out 3).trans rfl; have hfz47_0 := blk_frozen BK336.out 0; have hfz47_1 := blk_frozen BK336.out 1; have hfz47_2 := blk_frozen BK336.out 2; have hfz47_3 := blk_frozen BK336.out 3))
            go_meet
            case rel => exact ⟨_, (0), (t345), (t346), (t347), (t348), (by first | rfl | (simp; done) | (simp [*]; done)), H', ⟨by have := HJ5.out; have := HK2.out; first | omega | exact Nat.le_refl _⟩, ⟨by (with_reducible repeat (first | refine blk_drewN ?_ _ | refine blk_drew ?_ | refine blk_alloc ?_ _)); refine blk_far ?_ NB332_336.out _; (with_reducible repeat (first | refine blk_drewN ?_ _ | refine blk_drew ?_ | refine blk_alloc ?_ _)); refine blk_far ?_ NB332_336.out _; (with_reducible repeat (first | refine blk_drewN ?_ _ | refine blk_drew ?_ | refine blk_alloc ?_ _)); refine blk_far ?_ NB332_336.out _; (with_reducible repeat (first | refine blk_drewN ?_ _ | refine blk_drew ?_ | refine blk_alloc ?_ _)); refine blk_far ?_ NB332_336.out _; (with_reducible repeat (first | refine blk_drewN ?_ _ | refine blk_drew ?_ | refine blk_alloc ?_ _)); exact BK332.out⟩, ⟨by (with_reducible repeat (first | refine blk_drewN ?_ _ | refine blk_drew ?_ | refine blk_alloc ?_ _)); refine blk_far ?_ NB333_336.out _; (with_reducible repeat (first | refine blk_drewN ?_ _ | refine blk_drew ?_ | refine blk_alloc ?_ _)); refine blk_far ?_ NB333_336.out _; (with_reducible repeat (first | refine blk_drewN ?_ _ | refine blk_drew ?_ | refine blk_alloc ?_ _)); refine blk_far ?_ NB333_336.out _; (with_reducible repeat (first | refine blk_drewN ?_ _ | refine blk_drew ?_ | refine blk_alloc ?_ _)); refine blk_far ?_ NB333_336.out _; (with_reducible repeat (first | refine blk_drewN ?_ _ | refine blk_drew ?_ | refine blk_alloc ?_ _)); exact BK333.out⟩, ⟨by (with_reducible repeat (first | refine blk_drewN ?_ _ | refine blk_drew ?_ | refine blk_alloc ?_ _)); refine blk_put (cs := #[.int .i64 t345, .int .i64 t346, .int .i64 t347, .int .i64 x334003_2]) ?_ 3 _ rfl; (with_reducible repeat (first | refine blk_drewN ?_ _ | refine blk_drew ?_ | refine blk_alloc ?_ _)); refine blk_put (cs := #[.int .i64 t345, .int .i64 t346, .int .i64 x334002_2, .int .i64 x334003_2]) ?_ 2 _ rfl; (with_reducible repeat (first | refine blk_drewN ?_ _ | refine blk_drew ?_ | refine blk_alloc ?_ _)); refine blk_put (cs := #[.int .i64 t345, .int .i64 x334001_2, .int .i64 x334002_2, .int .i64 x334003_2]) ?_ 1 _ rfl; (with_reducible repeat (first | refine blk_drewN ?_ _ | refine blk_drew ?_ | refine blk_alloc ?_ _)); refine blk_put (cs := #[.int .i64 x334000_2, .int .i64 x334001_2, .int .i64 x334002_2, .int .i64 x334003_2]) ?_ 0 _ rfl; (with_reducible repeat (first | refine blk_drewN ?_ _ | refine blk_drew ?_ | refine blk_alloc ?_ _)); exact BK336.out⟩, ⟨by repeat (first | (with_reducible first | exact HB.out | apply below_alloc | apply pw_below_drewN | apply below_drew1 | refine below_set ?_ GE332.out | refine below_set ?_ GE333.out | refine below_set ?_ GE336.out) | exact HB.out)⟩⟩
           ·rw [if_neg c39] at H
            have c39b0 : (((rd_T42 l2 x7_2).f0) == 1) = false := beq_eq_false_iff_ne.mpr c39
            have c39b1 : (((rd_T42 l2 x7_2).f0) != 1) = true := bne_iff_ne.mpr c39
            by_cases c48 : ((rd_T42 l2 x7_2).f0) = 2
            ·rw [if_pos c48] at H
             have c48b0 : (((rd_T42 l2 x7_2).f0) == 2) = true := beq_iff_eq.mpr c48
             have c48b1 : (((rd_T42 l2 x7_2).f0) != 2) = false := bne_eq_false_iff_eq.mpr c48
             clear c48
             replace H := Option.bind_eq_some_iff.mp H
             obtain ⟨⟨t350, t351, t352, t353⟩, A490, H⟩ := H
             replace H : (skiarealaw14_DriveValid.j2 k2 l2 x7_2 0 a0_0 a0_1 a0_2 a0_3 x334000_2 x334001_2 x334002_2 x334003_2 t350 t351 t352 t353) = some r := H
             have A49 := Aside0.mk A490
             clear A490
             have H' := Aside0.mk H
             clear H
             have p344 : 0 ≤ (x7_2 : Int) := of_decide_eq_true (by first | (with_reducible assumption) | assumption)
             have q344 : x7_2 < (l2.length : Int) := of_decide_eq_true (by first | (with_reducible assumption) | assumption)
             obtain ⟨ad344, e344, hx344_0, hx344_1⟩ := at_T42 HR2.out x7_2 p344 q344
             obtain rfl : ad337 = ad344 := (by injection e344)
             have hn344_0 : ad337.block ≠ gb336 := Nat.ne_of_lt (Nat.lt_of_lt_of_le (by have := World.block_lt_of_cell? _ _ hx344_0; first | rwa [add_block] at this | exact this) GW336.out)
             have hn344_1 : ad337.block ≠ gb336 := Nat.ne_of_lt (Nat.lt_of_lt_of_le (by have := World.block_lt_of_cell? _ _ hx344_0; first | rwa [add_block] at this | exact this) GW336.out)
             have hn344_2 : ad337.block ≠ gb336 := Nat.ne_of_lt (Nat.lt_of_lt_of_le (by have := World.block_lt_of_cell? _ _ hx344_0; first | rwa [add_block] at this | exact this) GW336.out)
             have hn344_3 : ad337.block ≠ gb336 := Nat.ne_of_lt (Nat.lt_of_lt_of_le (by have := World.block_lt_of_cell? _ _ hx344_0; first | rwa [add_block] at this | exact this) GW336.out)
             replace hx344_0 := (HB.out.cell (World.block_lt_of_cell? w _ hx344_0)).trans hx344_0
             replace hx344_1 := (HB.out.cell (World.block_lt_of_cell? w _ hx344_1)).trans hx344_1
             replace hx344_0 := (cell_far (p := ⟨gb336, 0, none⟩) (by first | (rw [add_block]; exact hn344_0) | (show (Addr.add _ _).block ≠ _; rw [add_block]; exact hn344_0) | exact hn344_0) (.int .i64 x334000_2)).trans hx344_0
             replace hx344_1 := (cell_far (p := ⟨gb336, 0, none⟩) (by first | (rw [add_block]; exact hn344_0) | (show (Addr.add _ _).block ≠ _; rw [add_block]; exact hn344_0) | exact hn344_0) (.int .i64 x334000_2)).trans hx344_1
             replace hx344_0 := (cell_far (p := ⟨gb336, 1, none⟩) (by first | (rw [add_block]; exact hn344_1) | (show (Addr.add _ _).block ≠ _; rw [add_block]; exact hn344_1) | exact hn344_1) (.int .i64 x334001_2)).trans hx344_0
             replace hx344_1 := (cell_far (p := ⟨gb336, 1, none⟩) (by first | (rw [add_block]; exact hn344_1) | (show (Addr.add _ _).block ≠ _; rw [add_block]; exact hn344_1) | exact hn344_1) (.int .i64 x334001_2)).trans hx344_1
             replace hx344_0 := (cell_far (p := ⟨gb336, 2, none⟩) (by first | (rw [add_block]; exact hn344_2) | (show (Addr.add _ _).block ≠ _; rw [add_block]; exact hn344_2) | exact hn344_2) (.int .i64 x334002_2)).trans hx344_0
             replace hx344_1 := (cell_far (p := ⟨gb336, 2, none⟩) (by first | (rw [add_block]; exact hn344_2) | (show (Addr.add _ _).block ≠ _; rw [add_block]; exact hn344_2) | exact hn344_2) (.int .i64 x334002_2)).trans hx344_1
             replace hx344_0 := (cell_far (p := ⟨gb336, 3, none⟩) (by first | (rw [add_block]; exact hn344_3) | (show (Addr.add _ _).block ≠ _; rw [add_block]; exact hn344_3) | exact hn344_3) (.int .i64 x334003_2)).trans hx344_0
             replace hx344_1 := (cell_far (p := ⟨gb336, 3, none⟩) (by first | (rw [add_block]; exact hn344_3) | (show (Addr.add _ _).block ≠ _; rw [add_block]; exact hn344_3) | exact hn344_3) (.int .i64 x334003_2)).trans hx344_1
             clear hn344_0
             clear hn344_1
             clear hn344_2
             clear hn344_3
             replace p344 := eq_true p344
             replace q344 := eq_true q344
             have p349 : 0 ≤ (x7_2 : Int) := of_decide_eq_true (by first | (with_reducible assumption) | assumption)
             have q349 : x7_2 < (l2.length : Int) := of_decide_eq_true (by first | (with_reducible assumption) | assumption)
             obtain ⟨ad349, e349, hx349_0, hx349_1⟩ := at_T42 HR2.out x7_2 p349 q349
             obtain rfl : ad337 = ad349 := (by injection e349)
             have hn349_0 : ad337.block ≠ gb336 := Nat.ne_of_lt (Nat.lt_of_lt_of_le (by have := World.block_lt_of_cell? _ _ hx349_0; first | rwa [add_block] at this | exact this) GW336.out)
             have hn349_1 : ad337.block ≠ gb336 := Nat.ne_of_lt (Nat.lt_of_lt_of_le (by have := World.block_lt_of_cell? _ _ hx349_0; first | rwa [add_block] at this | exact this) GW336.out)
             have hn349_2 : ad337.block ≠ gb336 := Nat.ne_of_lt (Nat.lt_of_lt_of_le (by have := World.block_lt_of_cell? _ _ hx349_0; first | rwa [add_block] at this | exact this) GW336.out)
             have hn349_3 : ad337.block ≠ gb336 := Nat.ne_of_lt (Nat.lt_of_lt_of_le (by have := World.block_lt_of_cell? _ _ hx349_0; first | rwa [add_block] at this | exact this) GW336.out)
             replace hx349_0 := (HB.out.cell (World.block_lt_of_cell? w _ hx349_0)).trans hx349_0
             replace hx349_1 := (HB.out.cell (World.block_lt_of_cell? w _ hx349_1)).trans hx349_1
             replace hx349_0 := (cell_far (p := ⟨gb336, 0, none⟩) (by first | (rw [add_block]; exact hn349_0) | (show (Addr.add _ _).block ≠ _; rw [add_block]; exact hn349_0) | exact hn349_0) (.int .i64 x334000_2)).trans hx349_0
             replace hx349_1 := (cell_far (p := ⟨gb336, 0, none⟩) (by first | (rw [add_block]; exact hn349_0) | (show (Addr.add _ _).block ≠ _; rw [add_block]; exact hn349_0) | exact hn349_0) (.int .i64 x334000_2)).trans hx349_1
             replace hx349_0 := (cell_far (p := ⟨gb336, 1, none⟩) (by first | (rw [add_block]; exact hn349_1) | (show (Addr.add _ _).block ≠ _; rw [add_block]; exact hn349_1) | exact hn349_1) (.int .i64 x334001_2)).trans hx349_0
             replace hx349_1 := (cell_far (p := ⟨gb336, 1, none⟩) (by first | (rw [add_block]; exact hn349_1) | (show (Addr.add _ _).block ≠ _; rw [add_block]; exact hn349_1) | exact hn349_1) (.int .i64 x334001_2)).trans hx349_1
             replace hx349_0 := (cell_far (p := ⟨gb336, 2, none⟩) (by first | (rw [add_block]; exact hn349_2) | (show (Addr.add _ _).block ≠ _; rw [add_block]; exact hn349_2) | exact hn349_2) (.int .i64 x334002_2)).trans hx349_0
             replace hx349_1 := (cell_far (p := ⟨gb336, 2, none⟩) (by first | (rw [add_block]; exact hn349_2) | (show (Addr.add _ _).block ≠ _; rw [add_block]; exact hn349_2) | exact hn349_2) (.int .i64 x334002_2)).trans hx349_1
             replace hx349_0 := (cell_far (p := ⟨gb336, 3, none⟩) (by first | (rw [add_block]; exact hn349_3) | (show (Addr.add _ _).block ≠ _; rw [add_block]; exact hn349_3) | exact hn349_3) (.int .i64 x334003_2)).trans hx349_0
             replace hx349_1 := (cell_far (p := ⟨gb336, 3, none⟩) (by first | (rw [add_block]; exact hn349_3) | (show (Addr.add _ _).block ≠ _; rw [add_block]; exact hn349_3) | exact hn349_3) (.int .i64 x334003_2)).trans hx349_1
             clear hn349_0
             clear hn349_1
             clear hn349_2
             clear hn349_3
             replace p349 := eq_true p349
             replace q349 := eq_true q349
             have hnb50 := NB332_333.out
             have hnc50 := NB333_332.out
             have hnb51 := NB332_336.out
             have hnc51 := NB336_332.out
             have hcz52_0 : w26.cell? ⟨gb332, 0, none⟩ = some (.int .i64 a0_0) := (blk_cell BK332.out 0).trans rfl
             have hcz52_1 : w26.cell? ⟨gb332, 1, none⟩ = some (.int .i64 a0_1) := (blk_cell BK332.out 1).trans rfl
             have hcz52_2 : w26.cell? ⟨gb332, 2, none⟩ = some (.int .i64 a0_2) := (blk_cell BK332.out 2).trans rfl
             have hcz52_3 : w26.cell? ⟨gb332, 3, none⟩ = some (.int .i64 a0_3) := (blk_cell BK332.out 3).trans rfl
             have hfz52_0 := blk_frozen BK332.out 0
             have hfz52_1 := blk_frozen BK332.out 1
             have hfz52_2 := blk_frozen BK332.out 2
             have hfz52_3 := blk_frozen BK332.out 3
             have hnb53 := NB333_336.out
             have hnc53 := NB336_333.out
             have hcz54_0 : w26.cell? ⟨gb333, 0, none⟩ = some (.int .i64 x334000_2) := (blk_cell BK333.out 0).trans rfl
             have hcz54_1 : w26.cell? ⟨gb333, 1, none⟩ = some (.int .i64 x334001_2) := (blk_cell BK333.out 1).trans rfl
             have hcz54_2 : w26.cell? ⟨gb333, 2, none⟩ = some (.int .i64 x334002_2) := (blk_cell BK333.out 2).trans rfl
             have hcz54_3 : w26.cell? ⟨gb333, 3, none⟩ = some (.int .i64 x334003_2) := (blk_cell BK333.out 3).trans rfl
             have hfz54_0 := blk_frozen BK333.out 0
             have hfz54_1 := blk_frozen BK333.out 1
             have hfz54_2 := blk_frozen BK333.out 2
             have hfz54_3 := blk_frozen BK333.out 3
             go_wp2_with (first | ((with_reducible refine gate_callee (f := 22) rfl ?_); refine goesL_ (some 62) rfl rfl Try.func22 (by kernel_rfl) rfl #[.agg #[.int .i64 a0_0, .int .i64 a0_1, .int .i64 a0_2, .int .i64 a0_3], .agg #[.int .i64 x334000_2, .int .i64 x334001_2, .int .i64 x334002_2, .int .i64 x334003_2]] rfl (by (try simp only [List.map_toArray, List.map_cons, List.map_nil]); first | done | rfl | (simp only [List.length_drop, List.length_take]; rfl)) ?_; (with_reducible refine (drive_Emergency.calls a0_0 a0_1 a0_2 a0_3 x334000_2 x334001_2 x334002_2 x334003_2 t350 t351 t352 t353 _ A49.out).mono ?_); rintro e w55 ⟨rfl, hb⟩; refine ⟨_, rfl, ?_⟩; have n0_ := Aside0.mk (blk_below (g := gb332) (o := .cells #[.int .i64 a0_0, .int .i64 a0_1, .int .i64 a0_2, .int .i64 a0_3] 23 (0, 0)) (by (with_reducible repeat (first | refine blk_drewN ?_ _ | refine blk_drew ?_ | refine blk_alloc ?_ _)); refine blk_far ?_ NB332_336.out _; (with_reducible repeat (first | refine blk_drewN ?_ _ | refine blk_drew ?_ | refine blk_alloc ?_ _)); refine blk_far ?_ NB332_336.out _; (with_reducible repeat (first | refine blk_drewN ?_ _ | refine blk_drew ?_ | refine blk_alloc ?_ _)); refine blk_far ?_ NB332_336.out _; (with_reducible repeat (first | refine blk_drewN ?_ _ | refine blk_drew ?_ | refine blk_alloc ?_ _)); refine blk_far ?_ NB332_336.out _; (with_reducible repeat (first | refine blk_drewN ?_ _ | refine blk_drew ?_ | refine blk_alloc ?_ _)); exact BK332.out) hb); have n1_ := Aside0.mk (blk_below (g := gb333) (o := .cells #[.int .i64 x334000_2, .int .i64 x334001_2, .int .i64 x334002_2, .int .i64 x334003_2] 25 (0, 0)) (by (with_reducible repeat (first | refine blk_drewN ?_ _ | refine blk_drew ?_ | refine blk_alloc ?_ _)); refine blk_far ?_ NB333_336.out _; (with_reducible repeat (first | refine blk_drewN ?_ _ | refine blk_drew ?_ | refine blk_alloc ?_ _)); refine blk_far ?_ NB333_336.out _; (with_reducible repeat (first | refine blk_drewN ?_ _ | refine blk_drew ?_ | refine blk_alloc ?_ _)); refine blk_far ?_ NB333_336.out _; (with_reducible repeat (first | refine blk_drewN ?_ _ | refine blk_drew ?_ | refine blk_alloc ?_ _)); refine blk_far ?_ NB333_336.out _; (with_reducible repeat (first | refine blk_drewN ?_ _ | refine blk_drew ?_ | refine blk_alloc ?_ _)); exact BK333.out) hb); have n2_ := Aside0.mk (blk_below (g := gb336) (o := .cells #[.int .i64 x334000_2, .int .i64 x334001_2, .int .i64 x334002_2, .int .i64 x334003_2] 25 (0, 0)) (by (with_reducible repeat (first | refine blk_drewN ?_ _ | refine blk_drew ?_ | refine blk_alloc ?_ _)); refine blk_put (cs := #[.int .i64 x334000_2, .int .i64 x334001_2, .int .i64 x334002_2, .int .i64 0]) ?_ 3 _ rfl; (with_reducible repeat (first | refine blk_drewN ?_ _ | refine blk_drew ?_ | refine blk_alloc ?_ _)); refine blk_put (cs := #[.int .i64 x334000_2, .int .i64 x334001_2, .int .i64 0, .int .i64 0]) ?_ 2 _ rfl; (with_reducible repeat (first | refine blk_drewN ?_ _ | refine blk_drew ?_ | refine blk_alloc ?_ _)); refine blk_put (cs := #[.int .i64 x334000_2, .int .i64 0, .int .i64 0, .int .i64 0]) ?_ 1 _ rfl; (with_reducible repeat (first | refine blk_drewN ?_ _ | refine blk_drew ?_ | refine blk_alloc ?_ _)); refine blk_put (cs := #[.int .i64 0, .int .i64 0, .int .i64 0, .int .i64 0]) ?_ 0 _ rfl; (with_reducible repeat (first | refine blk_drewN ?_ _ | refine blk_drew ?_ | refine blk_alloc ?_ _)); exact BK336.out) hb); have n3_ := Aside0.mk (below_step (by repeat (first | (with_reducible first | exact HB.out | apply below_alloc | apply pw_below_drewN | apply below_drew1 | refine below_set ?_ GE332.out | refine below_set ?_ GE333.out | refine below_set ?_ GE336.out) | exact HB.out)) hb); clear BK332; clear BK333; clear BK336; clear HB; have BK332 := n0_; have BK333 := n1_; have BK336 := n2_; have HB := n3_; clear n0_ n1_ n2_ n3_; (try clear hb); (try clear hb2); (try clear hk); (try clear hi); have hcz56_0 : w55.cell? ⟨gb336, 0, none⟩ = some (.int .i64 x334000_2) := (blk_cell BK336.out 0).trans rfl; have hcz56_1 : w55.cell? ⟨gb336, 1, none⟩ = some (.int .i64 x334001_2) := (blk_cell BK336.out 1).trans rfl; have hcz56_2 : w55.cell? ⟨gb336, 2, none⟩ = some (.int .i64 x334002_2) := (blk_cell BK336.out 2).trans rfl; have hcz56_3 : w55.cell? ⟨gb336, 3, none⟩ = some (.int .i64 x334003_2) := (blk_cell BK336.out 3).trans rfl; have hfz56_0 := blk_frozen BK336.out 0; have hfz56_1 := blk_frozen BK336.out 1; have hfz56_2 := blk_frozen BK336.out 2; have hfz56_3 := blk_frozen BK336.out 3))
             go_meet
             case rel => exact ⟨_, (0), (t350), (t351), (t352), (t353), (by first | rfl | (simp; done) | (simp [*]; done)), H', ⟨by have := HJ5.out; have := HK2.out; first | omega | exact Nat.le_refl _⟩, ⟨by (with_reducible repeat (first | refine blk_drewN ?_ _ | refine blk_drew ?_ | refine blk_alloc ?_ _)); refine blk_far ?_ NB332_336.out _; (with_reducible repeat (first | refine blk_drewN ?_ _ | refine blk_drew ?_ | refine blk_alloc ?_ _)); refine blk_far ?_ NB332_336.out _; (with_reducible repeat (first | refine blk_drewN ?_ _ | refine blk_drew ?_ | refine blk_alloc ?_ _)); refine blk_far ?_ NB332_336.out _; (with_reducible repeat (first | refine blk_drewN ?_ _ | refine blk_drew ?_ | refine blk_alloc ?_ _)); refine blk_far ?_ NB332_336.out _; (with_reducible repeat (first | refine blk_drewN ?_ _ | refine blk_drew ?_ | refine blk_alloc ?_ _)); exact BK332.out⟩, ⟨by (with_reducible repeat (first | refine blk_drewN ?_ _ | refine blk_drew ?_ | refine blk_alloc ?_ _)); refine blk_far ?_ NB333_336.out _; (with_reducible repeat (first | refine blk_drewN ?_ _ | refine blk_drew ?_ | refine blk_alloc ?_ _)); refine blk_far ?_ NB333_336.out _; (with_reducible repeat (first | refine blk_drewN ?_ _ | refine blk_drew ?_ | refine blk_alloc ?_ _)); refine blk_far ?_ NB333_336.out _; (with_reducible repeat (first | refine blk_drewN ?_ _ | refine blk_drew ?_ | refine blk_alloc ?_ _)); refine blk_far ?_ NB333_336.out _; (with_reducible repeat (first | refine blk_drewN ?_ _ | refine blk_drew ?_ | refine blk_alloc ?_ _)); exact BK333.out⟩, ⟨by (with_reducible repeat (first | refine blk_drewN ?_ _ | refine blk_drew ?_ | refine blk_alloc ?_ _)); refine blk_put (cs := #[.int .i64 t350, .int .i64 t351, .int .i64 t352, .int .i64 x334003_2]) ?_ 3 _ rfl; (with_reducible repeat (first | refine blk_drewN ?_ _ | refine blk_drew ?_ | refine blk_alloc ?_ _)); refine blk_put (cs := #[.int .i64 t350, .int .i64 t351, .int .i64 x334002_2, .int .i64 x334003_2]) ?_ 2 _ rfl; (with_reducible repeat (first | refine blk_drewN ?_ _ | refine blk_drew ?_ | refine blk_alloc ?_ _)); refine blk_put (cs := #[.int .i64 t350, .int .i64 x334001_2, .int .i64 x334002_2, .int .i64 x334003_2]) ?_ 1 _ rfl; (with_reducible repeat (first | refine blk_drewN ?_ _ | refine blk_drew ?_ | refine blk_alloc ?_ _)); refine blk_put (cs := #[.int .i64 x334000_2, .int .i64 x334001_2, .int .i64 x334002_2, .int .i64 x334003_2]) ?_ 0 _ rfl; (with_reducible repeat (first | refine blk_drewN ?_ _ | refine blk_drew ?_ | refine blk_alloc ?_ _)); exact BK336.out⟩, ⟨by repeat (first | (with_reducible first | exact HB.out | apply below_alloc | apply pw_below_drewN | apply below_drew1 | refine below_set ?_ GE332.out | refine below_set ?_ GE333.out | refine below_set ?_ GE336.out) | exact HB.out)⟩⟩
            ·rw [if_neg c48] at H
             have c48b0 : (((rd_T42 l2 x7_2).f0) == 2) = false := beq_eq_false_iff_ne.mpr c48
             have c48b1 : (((rd_T42 l2 x7_2).f0) != 2) = true := bne_iff_ne.mpr c48
             by_cases c57 : ((rd_T42 l2 x7_2).f0) = 3
             ·rw [if_pos c57] at H
              have c57b0 : (((rd_T42 l2 x7_2).f0) == 3) = true := beq_iff_eq.mpr c57
              have c57b1 : (((rd_T42 l2 x7_2).f0) != 3) = false := bne_eq_false_iff_eq.mpr c57
              clear c57
              replace H := Option.bind_eq_some_iff.mp H
              obtain ⟨⟨t355, t356, t357, t358, t359⟩, A580, H⟩ := H
              replace H : (skiarealaw14_DriveValid.j2 k2 l2 x7_2 t359 a0_0 a0_1 a0_2 a0_3 x334000_2 x334001_2 x334002_2 x334003_2 t355 t356 t357 t358) = some r := H
              have A58 := Aside0.mk A580
              clear A580
              have H' := Aside0.mk H
              clear H
              have p344 : 0 ≤ (x7_2 : Int) := of_decide_eq_true (by first | (with_reducible assumption) | assumption)
              have q344 : x7_2 < (l2.length : Int) := of_decide_eq_true (by first | (with_reducible assumption) | assumption)
              obtain ⟨ad344, e344, hx344_0, hx344_1⟩ := at_T42 HR2.out x7_2 p344 q344
              obtain rfl : ad337 = ad344 := (by injection e344)
              have hn344_0 : ad337.block ≠ gb336 := Nat.ne_of_lt (Nat.lt_of_lt_of_le (by have := World.block_lt_of_cell? _ _ hx344_0; first | rwa [add_block] at this | exact this) GW336.out)
              have hn344_1 : ad337.block ≠ gb336 := Nat.ne_of_lt (Nat.lt_of_lt_of_le (by have := World.block_lt_of_cell? _ _ hx344_0; first | rwa [add_block] at this | exact this) GW336.out)
              have hn344_2 : ad337.block ≠ gb336 := Nat.ne_of_lt (Nat.lt_of_lt_of_le (by have := World.block_lt_of_cell? _ _ hx344_0; first | rwa [add_block] at this | exact this) GW336.out)
              have hn344_3 : ad337.block ≠ gb336 := Nat.ne_of_lt (Nat.lt_of_lt_of_le (by have := World.block_lt_of_cell? _ _ hx344_0; first | rwa [add_block] at this | exact this) GW336.out)
              replace hx344_0 := (HB.out.cell (World.block_lt_of_cell? w _ hx344_0)).trans hx344_0
              replace hx344_1 := (HB.out.cell (World.block_lt_of_cell? w _ hx344_1)).trans hx344_1
              replace hx344_0 := (cell_far (p := ⟨gb336, 0, none⟩) (by first | (rw [add_block]; exact hn344_0) | (show (Addr.add _ _).block ≠ _; rw [add_block]; exact hn344_0) | exact hn344_0) (.int .i64 x334000_2)).trans hx344_0
              replace hx344_1 := (cell_far (p := ⟨gb336, 0, none⟩) (by first | (rw [add_block]; exact hn344_0) | (show (Addr.add _ _).block ≠ _; rw [add_block]; exact hn344_0) | exact hn344_0) (.int .i64 x334000_2)).trans hx344_1
              replace hx344_0 := (cell_far (p := ⟨gb336, 1, none⟩) (by first | (rw [add_block]; exact hn344_1) | (show (Addr.add _ _).block ≠ _; rw [add_block]; exact hn344_1) | exact hn344_1) (.int .i64 x334001_2)).trans hx344_0
              replace hx344_1 := (cell_far (p := ⟨gb336, 1, none⟩) (by first | (rw [add_block]; exact hn344_1) | (show (Addr.add _ _).block ≠ _; rw [add_block]; exact hn344_1) | exact hn344_1) (.int .i64 x334001_2)).trans hx344_1
              replace hx344_0 := (cell_far (p := ⟨gb336, 2, none⟩) (by first | (rw [add_block]; exact hn344_2) | (show (Addr.add _ _).block ≠ _; rw [add_block]; exact hn344_2) | exact hn344_2) (.int .i64 x334002_2)).trans hx344_0
              replace hx344_1 := (cell_far (p := ⟨gb336, 2, none⟩) (by first | (rw [add_block]; exact hn344_2) | (show (Addr.add _ _).block ≠ _; rw [add_block]; exact hn344_2) | exact hn344_2) (.int .i64 x334002_2)).trans hx344_1
              replace hx344_0 := (cell_far (p := ⟨gb336, 3, none⟩) (by first | (rw [add_block]; exact hn344_3) | (show (Addr.add _ _).block ≠ _; rw [add_block]; exact hn344_3) | exact hn344_3) (.int .i64 x334003_2)).trans hx344_0
              replace hx344_1 := (cell_far (p := ⟨gb336, 3, none⟩) (by first | (rw [add_block]; exact hn344_3) | (show (Addr.add _ _).block ≠ _; rw [add_block]; exact hn344_3) | exact hn344_3) (.int .i64 x334003_2)).trans hx344_1
              clear hn344_0
              clear hn344_1
              clear hn344_2
              clear hn344_3
              replace p344 := eq_true p344
              replace q344 := eq_true q344
              have p349 : 0 ≤ (x7_2 : Int) := of_decide_eq_true (by first | (with_reducible assumption) | assumption)
              have q349 : x7_2 < (l2.length : Int) := of_decide_eq_true (by first | (with_reducible assumption) | assumption)
              obtain ⟨ad349, e349, hx349_0, hx349_1⟩ := at_T42 HR2.out x7_2 p349 q349
              obtain rfl : ad337 = ad349 := (by injection e349)
              have hn349_0 : ad337.block ≠ gb336 := Nat.ne_of_lt (Nat.lt_of_lt_of_le (by have := World.block_lt_of_cell? _ _ hx349_0; first | rwa [add_block] at this | exact this) GW336.out)
              have hn349_1 : ad337.block ≠ gb336 := Nat.ne_of_lt (Nat.lt_of_lt_of_le (by have := World.block_lt_of_cell? _ _ hx349_0; first | rwa [add_block] at this | exact this) GW336.out)
              have hn349_2 : ad337.block ≠ gb336 := Nat.ne_of_lt (Nat.lt_of_lt_of_le (by have := World.block_lt_of_cell? _ _ hx349_0; first | rwa [add_block] at this | exact this) GW336.out)
              have hn349_3 : ad337.block ≠ gb336 := Nat.ne_of_lt (Nat.lt_of_lt_of_le (by have := World.block_lt_of_cell? _ _ hx349_0; first | rwa [add_block] at this | exact this) GW336.out)
              replace hx349_0 := (HB.out.cell (World.block_lt_of_cell? w _ hx349_0)).trans hx349_0
              replace hx349_1 := (HB.out.cell (World.block_lt_of_cell? w _ hx349_1)).trans hx349_1
              replace hx349_0 := (cell_far (p := ⟨gb336, 0, none⟩) (by first | (rw [add_block]; exact hn349_0) | (show (Addr.add _ _).block ≠ _; rw [add_block]; exact hn349_0) | exact hn349_0) (.int .i64 x334000_2)).trans hx349_0
              replace hx349_1 := (cell_far (p := ⟨gb336, 0, none⟩) (by first | (rw [add_block]; exact hn349_0) | (show (Addr.add _ _).block ≠ _; rw [add_block]; exact hn349_0) | exact hn349_0) (.int .i64 x334000_2)).trans hx349_1
              replace hx349_0 := (cell_far (p := ⟨gb336, 1, none⟩) (by first | (rw [add_block]; exact hn349_1) | (show (Addr.add _ _).block ≠ _; rw [add_block]; exact hn349_1) | exact hn349_1) (.int .i64 x334001_2)).trans hx349_0
              replace hx349_1 := (cell_far (p := ⟨gb336, 1, none⟩) (by first | (rw [add_block]; exact hn349_1) | (show (Addr.add _ _).block ≠ _; rw [add_block]; exact hn349_1) | exact hn349_1) (.int .i64 x334001_2)).trans hx349_1
              replace hx349_0 := (cell_far (p := ⟨gb336, 2, none⟩) (by first | (rw [add_block]; exact hn349_2) | (show (Addr.add _ _).block ≠ _; rw [add_block]; exact hn349_2) | exact hn349_2) (.int .i64 x334002_2)).trans hx349_0
              replace hx349_1 := (cell_far (p := ⟨gb336, 2, none⟩) (by first | (rw [add_block]; exact hn349_2) | (show (Addr.add _ _).block ≠ _; rw [add_block]; exact hn349_2) | exact hn349_2) (.int .i64 x334002_2)).trans hx349_1
              replace hx349_0 := (cell_far (p := ⟨gb336, 3, none⟩) (by first | (rw [add_block]; exact hn349_3) | (show (Addr.add _ _).block ≠ _; rw [add_block]; exact hn349_3) | exact hn349_3) (.int .i64 x334003_2)).trans hx349_0
              replace hx349_1 := (cell_far (p := ⟨gb336, 3, none⟩) (by first | (rw [add_block]; exact hn349_3) | (show (Addr.add _ _).block ≠ _; rw [add_block]; exact hn349_3) | exact hn349_3) (.int .i64 x334003_2)).trans hx349_1
              clear hn349_0
              clear hn349_1
              clear hn349_2
              clear hn349_3
              replace p349 := eq_true p349
              replace q349 := eq_true q349
              have p354 : 0 ≤ (x7_2 : Int) := of_decide_eq_true (by first | (with_reducible assumption) | assumption)
              have q354 : x7_2 < (l2.length : Int) := of_decide_eq_true (by first | (with_reducible assumption) | assumption)
              obtain ⟨ad354, e354, hx354_0, hx354_1⟩ := at_T42 HR2.out x7_2 p354 q354
              obtain rfl : ad337 = ad354 := (by injection e354)
              have hn354_0 : ad337.block ≠ gb336 := Nat.ne_of_lt (Nat.lt_of_lt_of_le (by have := World.block_lt_of_cell? _ _ hx354_0; first | rwa [add_block] at this | exact this) GW336.out)
              have hn354_1 : ad337.block ≠ gb336 := Nat.ne_of_lt (Nat.lt_of_lt_of_le (by have := World.block_lt_of_cell? _ _ hx354_0; first | rwa [add_block] at this | exact this) GW336.out)
              have hn354_2 : ad337.block ≠ gb336 := Nat.ne_of_lt (Nat.lt_of_lt_of_le (by have := World.block_lt_of_cell? _ _ hx354_0; first | rwa [add_block] at this | exact this) GW336.out)
              have hn354_3 : ad337.block ≠ gb336 := Nat.ne_of_lt (Nat.lt_of_lt_of_le (by have := World.block_lt_of_cell? _ _ hx354_0; first | rwa [add_block] at this | exact this) GW336.out)
              replace hx354_0 := (HB.out.cell (World.block_lt_of_cell? w _ hx354_0)).trans hx354_0
              replace hx354_1 := (HB.out.cell (World.block_lt_of_cell? w _ hx354_1)).trans hx354_1
              replace hx354_0 := (cell_far (p := ⟨gb336, 0, none⟩) (by first | (rw [add_block]; exact hn354_0) | (show (Addr.add _ _).block ≠ _; rw [add_block]; exact hn354_0) | exact hn354_0) (.int .i64 x334000_2)).trans hx354_0
              replace hx354_1 := (cell_far (p := ⟨gb336, 0, none⟩) (by first | (rw [add_block]; exact hn354_0) | (show (Addr.add _ _).block ≠ _; rw [add_block]; exact hn354_0) | exact hn354_0) (.int .i64 x334000_2)).trans hx354_1
              replace hx354_0 := (cell_far (p := ⟨gb336, 1, none⟩) (by first | (rw [add_block]; exact hn354_1) | (show (Addr.add _ _).block ≠ _; rw [add_block]; exact hn354_1) | exact hn354_1) (.int .i64 x334001_2)).trans hx354_0
              replace hx354_1 := (cell_far (p := ⟨gb336, 1, none⟩) (by first | (rw [add_block]; exact hn354_1) | (show (Addr.add _ _).block ≠ _; rw [add_block]; exact hn354_1) | exact hn354_1) (.int .i64 x334001_2)).trans hx354_1
              replace hx354_0 := (cell_far (p := ⟨gb336, 2, none⟩) (by first | (rw [add_block]; exact hn354_2) | (show (Addr.add _ _).block ≠ _; rw [add_block]; exact hn354_2) | exact hn354_2) (.int .i64 x334002_2)).trans hx354_0
              replace hx354_1 := (cell_far (p := ⟨gb336, 2, none⟩) (by first | (rw [add_block]; exact hn354_2) | (show (Addr.add _ _).block ≠ _; rw [add_block]; exact hn354_2) | exact hn354_2) (.int .i64 x334002_2)).trans hx354_1
              replace hx354_0 := (cell_far (p := ⟨gb336, 3, none⟩) (by first | (rw [add_block]; exact hn354_3) | (show (Addr.add _ _).block ≠ _; rw [add_block]; exact hn354_3) | exact hn354_3) (.int .i64 x334003_2)).trans hx354_0
              replace hx354_1 := (cell_far (p := ⟨gb336, 3, none⟩) (by first | (rw [add_block]; exact hn354_3) | (show (Addr.add _ _).block ≠ _; rw [add_block]; exact hn354_3) | exact hn354_3) (.int .i64 x334003_2)).trans hx354_1
              clear hn354_0
              clear hn354_1
              clear hn354_2
              clear hn354_3
              replace p354 := eq_true p354
              replace q354 := eq_true q354
              have hnb59 := NB332_333.out
              have hnc59 := NB333_332.out
              have hnb60 := NB332_336.out
              have hnc60 := NB336_332.out
              have hcz61_0 : w26.cell? ⟨gb332, 0, none⟩ = some (.int .i64 a0_0) := (blk_cell BK332.out 0).trans rfl
              have hcz61_1 : w26.cell? ⟨gb332, 1, none⟩ = some (.int .i64 a0_1) := (blk_cell BK332.out 1).trans rfl
              have hcz61_2 : w26.cell? ⟨gb332, 2, none⟩ = some (.int .i64 a0_2) := (blk_cell BK332.out 2).trans rfl
              have hcz61_3 : w26.cell? ⟨gb332, 3, none⟩ = some (.int .i64 a0_3) := (blk_cell BK332.out 3).trans rfl
              have hfz61_0 := blk_frozen BK332.out 0
              have hfz61_1 := blk_frozen BK332.out 1
              have hfz61_2 := blk_frozen BK332.out 2
              have hfz61_3 := blk_frozen BK332.out 3
              have hnb62 := NB333_336.out
              have hnc62 := NB336_333.out
              have hcz63_0 : w26.cell? ⟨gb333, 0, none⟩ = some (.int .i64 x334000_2) := (blk_cell BK333.out 0).trans rfl
              have hcz63_1 : w26.cell? ⟨gb333, 1, none⟩ = some (.int .i64 x334001_2) := (blk_cell BK333.out 1).trans rfl
              have hcz63_2 : w26.cell? ⟨gb333, 2, none⟩ = some (.int .i64 x334002_2) := (blk_cell BK333.out 2).trans rfl
              have hcz63_3 : w26.cell? ⟨gb333, 3, none⟩ = some (.int .i64 x334003_2) := (blk_cell BK333.out 3).trans rfl
              have hfz63_0 := blk_frozen BK333.out 0
              have hfz63_1 := blk_frozen BK333.out 1
              have hfz63_2 := blk_frozen BK333.out 2
              have hfz63_3 := blk_frozen BK333.out 3
              go_wp2_with (first | ((with_reducible refine gate_callee (f := 18) rfl ?_); refine goesL_ (some 72) rfl rfl Try.func18 (by kernel_rfl) rfl #[.agg #[.int .i64 a0_0, .int .i64 a0_1, .int .i64 a0_2, .int .i64 a0_3], .agg #[.int .i64 x334000_2, .int .i64 x334001_2, .int .i64 x334002_2, .int .i64 x334003_2]] rfl (by (try simp only [List.map_toArray, List.map_cons, List.map_nil]); first | done | rfl | (simp only [List.length_drop, List.length_take]; rfl)) ?_; (with_reducible refine (drive_Reset.calls a0_0 a0_1 a0_2 a0_3 x334000_2 x334001_2 x334002_2 x334003_2 t355 t356 t357 t358 t359 _ A58.out).mono ?_); rintro e w64 ⟨rfl, hb⟩; refine ⟨_, rfl, ?_⟩; have n0_ := Aside0.mk (blk_below (g := gb332) (o := .cells #[.int .i64 a0_0, .int .i64 a0_1, .int .i64 a0_2, .int .i64 a0_3] 23 (0, 0)) (by (with_reducible repeat (first | refine blk_drewN ?_ _ | refine blk_drew ?_ | refine blk_alloc ?_ _)); refine blk_far ?_ NB332_336.out _; (with_reducible repeat (first | refine blk_drewN ?_ _ | refine blk_drew ?_ | refine blk_alloc ?_ _)); refine blk_far ?_ NB332_336.out _; (with_reducible repeat (first | refine blk_drewN ?_ _ | refine blk_drew ?_ | refine blk_alloc ?_ _)); refine blk_far ?_ NB332_336.out _; (with_reducible repeat (first | refine blk_drewN ?_ _ | refine blk_drew ?_ | refine blk_alloc ?_ _)); refine blk_far ?_ NB332_336.out _; (with_reducible repeat (first | refine blk_drewN ?_ _ | refine blk_drew ?_ | refine blk_alloc ?_ _)); exact BK332.out) hb); have n1_ := Aside0.mk (blk_below (g := gb333) (o := .cells #[.int .i64 x334000_2, .int .i64 x334001_2, .int .i64 x334002_2, .int .i64 x334003_2] 25 (0, 0)) (by (with_reducible repeat (first | refine blk_drewN ?_ _ | refine blk_drew ?_ | refine blk_alloc ?_ _)); refine blk_far ?_ NB333_336.out _; (with_reducible repeat (first | refine blk_drewN ?_ _ | refine blk_drew ?_ | refine blk_alloc ?_ _)); refine blk_far ?_ NB333_336.out _; (with_reducible repeat (first | refine blk_drewN ?_ _ | refine blk_drew ?_ | refine blk_alloc ?_ _)); refine blk_far ?_ NB333_336.out _; (with_reducible repeat (first | refine blk_drewN ?_ _ | refine blk_drew ?_ | refine blk_alloc ?_ _)); refine blk_far ?_ NB333_336.out _; (with_reducible repeat (first | refine blk_drewN ?_ _ | refine blk_drew ?_ | refine blk_alloc ?_ _)); exact BK333.out) hb); have n2_ := Aside0.mk (blk_below (g := gb336) (o := .cells #[.int .i64 x334000_2, .int .i64 x334001_2, .int .i64 x334002_2, .int .i64 x334003_2] 25 (0, 0)) (by (with_reducible repeat (first | refine blk_drewN ?_ _ | refine blk_drew ?_ | refine blk_alloc ?_ _)); refine blk_put (cs := #[.int .i64 x334000_2, .int .i64 x334001_2, .int .i64 x334002_2, .int .i64 0]) ?_ 3 _ rfl; (with_reducible repeat (first | refine blk_drewN ?_ _ | refine blk_drew ?_ | refine blk_alloc ?_ _)); refine blk_put (cs := #[.int .i64 x334000_2, .int .i64 x334001_2, .int .i64 0, .int .i64 0]) ?_ 2 _ rfl; (with_reducible repeat (first | refine blk_drewN ?_ _ | refine blk_drew ?_ | refine blk_alloc ?_ _)); refine blk_put (cs := #[.int .i64 x334000_2, .int .i64 0, .int .i64 0, .int .i64 0]) ?_ 1 _ rfl; (with_reducible repeat (first | refine blk_drewN ?_ _ | refine blk_drew ?_ | refine blk_alloc ?_ _)); refine blk_put (cs := #[.int .i64 0, .int .i64 0, .int .i64 0, .int .i64 0]) ?_ 0 _ rfl; (with_reducible repeat (first | refine blk_drewN ?_ _ | refine blk_drew ?_ | refine blk_alloc ?_ _)); exact BK336.out) hb); have n3_ := Aside0.mk (below_step (by repeat (first | (with_reducible first | exact HB.out | apply below_alloc | apply pw_below_drewN | apply below_drew1 | refine below_set ?_ GE332.out | refine below_set ?_ GE333.out | refine below_set ?_ GE336.out) | exact HB.out)) hb); clear BK332; clear BK333; clear BK336; clear HB; have BK332 := n0_; have BK333 := n1_; have BK336 := n2_; have HB := n3_; clear n0_ n1_ n2_ n3_; (try clear hb); (try clear hb2); (try clear hk); (try clear hi); have hcz65_0 : w64.cell? ⟨gb336, 0, none⟩ = some (.int .i64 x334000_2) := (blk_cell BK336.out 0).trans rfl; have hcz65_1 : w64.cell? ⟨gb336, 1, none⟩ = some (.int .i64 x334001_2) := (blk_cell BK336.out 1).trans rfl; have hcz65_2 : w64.cell? ⟨gb336, 2, none⟩ = some (.int .i64 x334002_2) := (blk_cell BK336.out 2).trans rfl; have hcz65_3 : w64.cell? ⟨gb336, 3, none⟩ = some (.int .i64 x334003_2) := (blk_cell BK336.out 3).trans rfl; have hfz65_0 := blk_frozen BK336.out 0; have hfz65_1 := blk_frozen BK336.out 1; have hfz65_2 := blk_frozen BK336.out 2; have hfz65_3 := blk_frozen BK336.out 3))
              go_meet
              case rel => exact ⟨_, (t359), (t355), (t356), (t357), (t358), (by first | rfl | (simp; done) | (simp [*]; done)), H', ⟨by have := HJ5.out; have := HK2.out; first | omega | exact Nat.le_refl _⟩, ⟨by (with_reducible repeat (first | refine blk_drewN ?_ _ | refine blk_drew ?_ | refine blk_alloc ?_ _)); refine blk_far ?_ NB332_336.out _; (with_reducible repeat (first | refine blk_drewN ?_ _ | refine blk_drew ?_ | refine blk_alloc ?_ _)); refine blk_far ?_ NB332_336.out _; (with_reducible repeat (first | refine blk_drewN ?_ _ | refine blk_drew ?_ | refine blk_alloc ?_ _)); refine blk_far ?_ NB332_336.out _; (with_reducible repeat (first | refine blk_drewN ?_ _ | refine blk_drew ?_ | refine blk_alloc ?_ _)); refine blk_far ?_ NB332_336.out _; (with_reducible repeat (first | refine blk_drewN ?_ _ | refine blk_drew ?_ | refine blk_alloc ?_ _)); exact BK332.out⟩, ⟨by (with_reducible repeat (first | refine blk_drewN ?_ _ | refine blk_drew ?_ | refine blk_alloc ?_ _)); refine blk_far ?_ NB333_336.out _; (with_reducible repeat (first | refine blk_drewN ?_ _ | refine blk_drew ?_ | refine blk_alloc ?_ _)); refine blk_far ?_ NB333_336.out _; (with_reducible repeat (first | refine blk_drewN ?_ _ | refine blk_drew ?_ | refine blk_alloc ?_ _)); refine blk_far ?_ NB333_336.out _; (with_reducible repeat (first | refine blk_drewN ?_ _ | refine blk_drew ?_ | refine blk_alloc ?_ _)); refine blk_far ?_ NB333_336.out _; (with_reducible repeat (first | refine blk_drewN ?_ _ | refine blk_drew ?_ | refine blk_alloc ?_ _)); exact BK333.out⟩, ⟨by (with_reducible repeat (first | refine blk_drewN ?_ _ | refine blk_drew ?_ | refine blk_alloc ?_ _)); refine blk_put (cs := #[.int .i64 t355, .int .i64 t356, .int .i64 t357, .int .i64 x334003_2]) ?_ 3 _ rfl; (with_reducible repeat (first | refine blk_drewN ?_ _ | refine blk_drew ?_ | refine blk_alloc ?_ _)); refine blk_put (cs := #[.int .i64 t355, .int .i64 t356, .int .i64 x334002_2, .int .i64 x334003_2]) ?_ 2 _ rfl; (with_reducible repeat (first | refine blk_drewN ?_ _ | refine blk_drew ?_ | refine blk_alloc ?_ _)); refine blk_put (cs := #[.int .i64 t355, .int .i64 x334001_2, .int .i64 x334002_2, .int .i64 x334003_2]) ?_ 1 _ rfl; (with_reducible repeat (first | refine blk_drewN ?_ _ | refine blk_drew ?_ | refine blk_alloc ?_ _)); refine blk_put (cs := #[.int .i64 x334000_2, .int .i64 x334001_2, .int .i64 x334002_2, .int .i64 x334003_2]) ?_ 0 _ rfl; (with_reducible repeat (first | refine blk_drewN ?_ _ | refine blk_drew ?_ | refine blk_alloc ?_ _)); exact BK336.out⟩, ⟨by repeat (first | (with_reducible first | exact HB.out | apply below_alloc | apply pw_below_drewN | apply below_drew1 | refine below_set ?_ GE332.out | refine below_set ?_ GE333.out | refine below_set ?_ GE336.out) | exact HB.out)⟩⟩
             ·rw [if_neg c57] at H
              have c57b0 : (((rd_T42 l2 x7_2).f0) == 3) = false := beq_eq_false_iff_ne.mpr c57
              have c57b1 : (((rd_T42 l2 x7_2).f0) != 3) = true := bne_iff_ne.mpr c57
              obtain ⟨ji66, hji66⟩ : ∃ j_ : Int, (mn ((rd_T42 l2 x7_2).f1) 100) = j_ := ⟨_, rfl⟩
              replace H : ((drive_Step.f k2 a0_0 a0_1 a0_2 a0_3 x334000_2 x334001_2 x334002_2 x334003_2 (ji66)).bind fun bt361 => (skiarealaw14_DriveValid.j2 k2 l2 x7_2 0 a0_0 a0_1 a0_2 a0_3 x334000_2 x334001_2 x334002_2 x334003_2 bt361.1 bt361.2.1 bt361.2.2.1 bt361.2.2.2)) = some r := by first | (rw [hji66] at H; exact H) | (simp only [hji66] at H ⊢; exact H)
              have hji66_ : (if 100 < ((rd_T42 l2 x7_2).f1) then 100 else ((rd_T42 l2 x7_2).f1)) = ji66 := hji66
              replace H := Option.bind_eq_some_iff.mp H
              obtain ⟨⟨t361, t362, t363, t364⟩, A670, H⟩ := H
              replace H : (skiarealaw14_DriveValid.j2 k2 l2 x7_2 0 a0_0 a0_1 a0_2 a0_3 x334000_2 x334001_2 x334002_2 x334003_2 t361 t362 t363 t364) = some r := H
              have A67 := Aside0.mk A670
              clear A670
              have H' := Aside0.mk H
              clear H
              have p344 : 0 ≤ (x7_2 : Int) := of_decide_eq_true (by first | (with_reducible assumption) | assumption)
              have q344 : x7_2 < (l2.length : Int) := of_decide_eq_true (by first | (with_reducible assumption) | assumption)
              obtain ⟨ad344, e344, hx344_0, hx344_1⟩ := at_T42 HR2.out x7_2 p344 q344
              obtain rfl : ad337 = ad344 := (by injection e344)
              have hn344_0 : ad337.block ≠ gb336 := Nat.ne_of_lt (Nat.lt_of_lt_of_le (by have := World.block_lt_of_cell? _ _ hx344_0; first | rwa [add_block] at this | exact this) GW336.out)
              have hn344_1 : ad337.block ≠ gb336 := Nat.ne_of_lt (Nat.lt_of_lt_of_le (by have := World.block_lt_of_cell? _ _ hx344_0; first | rwa [add_block] at this | exact this) GW336.out)
              have hn344_2 : ad337.block ≠ gb336 := Nat.ne_of_lt (Nat.lt_of_lt_of_le (by have := World.block_lt_of_cell? _ _ hx344_0; first | rwa [add_block] at this | exact this) GW336.out)
              have hn344_3 : ad337.block ≠ gb336 := Nat.ne_of_lt (Nat.lt_of_lt_of_le (by have := World.block_lt_of_cell? _ _ hx344_0; first | rwa [add_block] at this | exact this) GW336.out)
              replace hx344_0 := (HB.out.cell (World.block_lt_of_cell? w _ hx344_0)).trans hx344_0
              replace hx344_1 := (HB.out.cell (World.block_lt_of_cell? w _ hx344_1)).trans hx344_1
              replace hx344_0 := (cell_far (p := ⟨gb336, 0, none⟩) (by first | (rw [add_block]; exact hn344_0) | (show (Addr.add _ _).block ≠ _; rw [add_block]; exact hn344_0) | exact hn344_0) (.int .i64 x334000_2)).trans hx344_0
              replace hx344_1 := (cell_far (p := ⟨gb336, 0, none⟩) (by first | (rw [add_block]; exact hn344_0) | (show (Addr.add _ _).block ≠ _; rw [add_block]; exact hn344_0) | exact hn344_0) (.int .i64 x334000_2)).trans hx344_1
              replace hx344_0 := (cell_far (p := ⟨gb336, 1, none⟩) (by first | (rw [add_block]; exact hn344_1) | (show (Addr.add _ _).block ≠ _; rw [add_block]; exact hn344_1) | exact hn344_1) (.int .i64 x334001_2)).trans hx344_0
              replace hx344_1 := (cell_far (p := ⟨gb336, 1, none⟩) (by first | (rw [add_block]; exact hn344_1) | (show (Addr.add _ _).block ≠ _; rw [add_block]; exact hn344_1) | exact hn344_1) (.int .i64 x334001_2)).trans hx344_1
              replace hx344_0 := (cell_far (p := ⟨gb336, 2, none⟩) (by first | (rw [add_block]; exact hn344_2) | (show (Addr.add _ _).block ≠ _; rw [add_block]; exact hn344_2) | exact hn344_2) (.int .i64 x334002_2)).trans hx344_0
              replace hx344_1 := (cell_far (p := ⟨gb336, 2, none⟩) (by first | (rw [add_block]; exact hn344_2) | (show (Addr.add _ _).block ≠ _; rw [add_block]; exact hn344_2) | exact hn344_2) (.int .i64 x334002_2)).trans hx344_1
              replace hx344_0 := (cell_far (p := ⟨gb336, 3, none⟩) (by first | (rw [add_block]; exact hn344_3) | (show (Addr.add _ _).block ≠ _; rw [add_block]; exact hn344_3) | exact hn344_3) (.int .i64 x334003_2)).trans hx344_0
              replace hx344_1 := (cell_far (p := ⟨gb336, 3, none⟩) (by first | (rw [add_block]; exact hn344_3) | (show (Addr.add _ _).block ≠ _; rw [add_block]; exact hn344_3) | exact hn344_3) (.int .i64 x334003_2)).trans hx344_1
              clear hn344_0
              clear hn344_1
              clear hn344_2
              clear hn344_3
              replace p344 := eq_true p344
              replace q344 := eq_true q344
              have p349 : 0 ≤ (x7_2 : Int) := of_decide_eq_true (by first | (with_reducible assumption) | assumption)
              have q349 : x7_2 < (l2.length : Int) := of_decide_eq_true (by first | (with_reducible assumption) | assumption)
              obtain ⟨ad349, e349, hx349_0, hx349_1⟩ := at_T42 HR2.out x7_2 p349 q349
              obtain rfl : ad337 = ad349 := (by injection e349)
              have hn349_0 : ad337.block ≠ gb336 := Nat.ne_of_lt (Nat.lt_of_lt_of_le (by have := World.block_lt_of_cell? _ _ hx349_0; first | rwa [add_block] at this | exact this) GW336.out)
              have hn349_1 : ad337.block ≠ gb336 := Nat.ne_of_lt (Nat.lt_of_lt_of_le (by have := World.block_lt_of_cell? _ _ hx349_0; first | rwa [add_block] at this | exact this) GW336.out)
              have hn349_2 : ad337.block ≠ gb336 := Nat.ne_of_lt (Nat.lt_of_lt_of_le (by have := World.block_lt_of_cell? _ _ hx349_0; first | rwa [add_block] at this | exact this) GW336.out)
              have hn349_3 : ad337.block ≠ gb336 := Nat.ne_of_lt (Nat.lt_of_lt_of_le (by have := World.block_lt_of_cell? _ _ hx349_0; first | rwa [add_block] at this | exact this) GW336.out)
              replace hx349_0 := (HB.out.cell (World.block_lt_of_cell? w _ hx349_0)).trans hx349_0
              replace hx349_1 := (HB.out.cell (World.block_lt_of_cell? w _ hx349_1)).trans hx349_1
              replace hx349_0 := (cell_far (p := ⟨gb336, 0, none⟩) (by first | (rw [add_block]; exact hn349_0) | (show (Addr.add _ _).block ≠ _; rw [add_block]; exact hn349_0) | exact hn349_0) (.int .i64 x334000_2)).trans hx349_0
              replace hx349_1 := (cell_far (p := ⟨gb336, 0, none⟩) (by first | (rw [add_block]; exact hn349_0) | (show (Addr.add _ _).block ≠ _; rw [add_block]; exact hn349_0) | exact hn349_0) (.int .i64 x334000_2)).trans hx349_1
              replace hx349_0 := (cell_far (p := ⟨gb336, 1, none⟩) (by first | (rw [add_block]; exact hn349_1) | (show (Addr.add _ _).block ≠ _; rw [add_block]; exact hn349_1) | exact hn349_1) (.int .i64 x334001_2)).trans hx349_0
              replace hx349_1 := (cell_far (p := ⟨gb336, 1, none⟩) (by first | (rw [add_block]; exact hn349_1) | (show (Addr.add _ _).block ≠ _; rw [add_block]; exact hn349_1) | exact hn349_1) (.int .i64 x334001_2)).trans hx349_1
              replace hx349_0 := (cell_far (p := ⟨gb336, 2, none⟩) (by first | (rw [add_block]; exact hn349_2) | (show (Addr.add _ _).block ≠ _; rw [add_block]; exact hn349_2) | exact hn349_2) (.int .i64 x334002_2)).trans hx349_0
              replace hx349_1 := (cell_far (p := ⟨gb336, 2, none⟩) (by first | (rw [add_block]; exact hn349_2) | (show (Addr.add _ _).block ≠ _; rw [add_block]; exact hn349_2) | exact hn349_2) (.int .i64 x334002_2)).trans hx349_1
              replace hx349_0 := (cell_far (p := ⟨gb336, 3, none⟩) (by first | (rw [add_block]; exact hn349_3) | (show (Addr.add _ _).block ≠ _; rw [add_block]; exact hn349_3) | exact hn349_3) (.int .i64 x334003_2)).trans hx349_0
              replace hx349_1 := (cell_far (p := ⟨gb336, 3, none⟩) (by first | (rw [add_block]; exact hn349_3) | (show (Addr.add _ _).block ≠ _; rw [add_block]; exact hn349_3) | exact hn349_3) (.int .i64 x334003_2)).trans hx349_1
              clear hn349_0
              clear hn349_1
              clear hn349_2
              clear hn349_3
              replace p349 := eq_true p349
              replace q349 := eq_true q349
              have p354 : 0 ≤ (x7_2 : Int) := of_decide_eq_true (by first | (with_reducible assumption) | assumption)
              have q354 : x7_2 < (l2.length : Int) := of_decide_eq_true (by first | (with_reducible assumption) | assumption)
              obtain ⟨ad354, e354, hx354_0, hx354_1⟩ := at_T42 HR2.out x7_2 p354 q354
              obtain rfl : ad337 = ad354 := (by injection e354)
              have hn354_0 : ad337.block ≠ gb336 := Nat.ne_of_lt (Nat.lt_of_lt_of_le (by have := World.block_lt_of_cell? _ _ hx354_0; first | rwa [add_block] at this | exact this) GW336.out)
              have hn354_1 : ad337.block ≠ gb336 := Nat.ne_of_lt (Nat.lt_of_lt_of_le (by have := World.block_lt_of_cell? _ _ hx354_0; first | rwa [add_block] at this | exact this) GW336.out)
              have hn354_2 : ad337.block ≠ gb336 := Nat.ne_of_lt (Nat.lt_of_lt_of_le (by have := World.block_lt_of_cell? _ _ hx354_0; first | rwa [add_block] at this | exact this) GW336.out)
              have hn354_3 : ad337.block ≠ gb336 := Nat.ne_of_lt (Nat.lt_of_lt_of_le (by have := World.block_lt_of_cell? _ _ hx354_0; first | rwa [add_block] at this | exact this) GW336.out)
              replace hx354_0 := (HB.out.cell (World.block_lt_of_cell? w _ hx354_0)).trans hx354_0
              replace hx354_1 := (HB.out.cell (World.block_lt_of_cell? w _ hx354_1)).trans hx354_1
              replace hx354_0 := (cell_far (p := ⟨gb336, 0, none⟩) (by first | (rw [add_block]; exact hn354_0) | (show (Addr.add _ _).block ≠ _; rw [add_block]; exact hn354_0) | exact hn354_0) (.int .i64 x334000_2)).trans hx354_0
              replace hx354_1 := (cell_far (p := ⟨gb336, 0, none⟩) (by first | (rw [add_block]; exact hn354_0) | (show (Addr.add _ _).block ≠ _; rw [add_block]; exact hn354_0) | exact hn354_0) (.int .i64 x334000_2)).trans hx354_1
              replace hx354_0 := (cell_far (p := ⟨gb336, 1, none⟩) (by first | (rw [add_block]; exact hn354_1) | (show (Addr.add _ _).block ≠ _; rw [add_block]; exact hn354_1) | exact hn354_1) (.int .i64 x334001_2)).trans hx354_0
              replace hx354_1 := (cell_far (p := ⟨gb336, 1, none⟩) (by first | (rw [add_block]; exact hn354_1) | (show (Addr.add _ _).block ≠ _; rw [add_block]; exact hn354_1) | exact hn354_1) (.int .i64 x334001_2)).trans hx354_1
              replace hx354_0 := (cell_far (p := ⟨gb336, 2, none⟩) (by first | (rw [add_block]; exact hn354_2) | (show (Addr.add _ _).block ≠ _; rw [add_block]; exact hn354_2) | exact hn354_2) (.int .i64 x334002_2)).trans hx354_0
              replace hx354_1 := (cell_far (p := ⟨gb336, 2, none⟩) (by first | (rw [add_block]; exact hn354_2) | (show (Addr.add _ _).block ≠ _; rw [add_block]; exact hn354_2) | exact hn354_2) (.int .i64 x334002_2)).trans hx354_1
              replace hx354_0 := (cell_far (p := ⟨gb336, 3, none⟩) (by first | (rw [add_block]; exact hn354_3) | (show (Addr.add _ _).block ≠ _; rw [add_block]; exact hn354_3) | exact hn354_3) (.int .i64 x334003_2)).trans hx354_0
              replace hx354_1 := (cell_far (p := ⟨gb336, 3, none⟩) (by first | (rw [add_block]; exact hn354_3) | (show (Addr.add _ _).block ≠ _; rw [add_block]; exact hn354_3) | exact hn354_3) (.int .i64 x334003_2)).trans hx354_1
              clear hn354_0
              clear hn354_1
              clear hn354_2
              clear hn354_3
              replace p354 := eq_true p354
              replace q354 := eq_true q354
              try go_wp2
              have n0_ : Aside0 (((((w26.setCell ⟨gb336, 0, none⟩ (.int .i64 x334000_2)).setCell ⟨gb336, 1, none⟩ (.int .i64 x334001_2)).setCell ⟨gb336, 2, none⟩ (.int .i64 x334002_2)).setCell ⟨gb336, 3, none⟩ (.int .i64 x334003_2)).heap[gb332]? = some (.cells #[.int .i64 a0_0, .int .i64 a0_1, .int .i64 a0_2, .int .i64 a0_3] 23 (0, 0))) := ⟨by (with_reducible repeat (first | refine blk_drewN ?_ _ | refine blk_drew ?_ | refine blk_alloc ?_ _)); refine blk_far ?_ NB332_336.out _; (with_reducible repeat (first | refine blk_drewN ?_ _ | refine blk_drew ?_ | refine blk_alloc ?_ _)); refine blk_far ?_ NB332_336.out _; (with_reducible repeat (first | refine blk_drewN ?_ _ | refine blk_drew ?_ | refine blk_alloc ?_ _)); refine blk_far ?_ NB332_336.out _; (with_reducible repeat (first | refine blk_drewN ?_ _ | refine blk_drew ?_ | refine blk_alloc ?_ _)); refine blk_far ?_ NB332_336.out _; (with_reducible repeat (first | refine blk_drewN ?_ _ | refine blk_drew ?_ | refine blk_alloc ?_ _)); exact BK332.out⟩
              have n1_ : Aside0 (((((w26.setCell ⟨gb336, 0, none⟩ (.int .i64 x334000_2)).setCell ⟨gb336, 1, none⟩ (.int .i64 x334001_2)).setCell ⟨gb336, 2, none⟩ (.int .i64 x334002_2)).setCell ⟨gb336, 3, none⟩ (.int .i64 x334003_2)).heap[gb333]? = some (.cells #[.int .i64 x334000_2, .int .i64 x334001_2, .int .i64 x334002_2, .int .i64 x334003_2] 25 (0, 0))) := ⟨by (with_reducible repeat (first | refine blk_drewN ?_ _ | refine blk_drew ?_ | refine blk_alloc ?_ _)); refine blk_far ?_ NB333_336.out _; (with_reducible repeat (first | refine blk_drewN ?_ _ | refine blk_drew ?_ | refine blk_alloc ?_ _)); refine blk_far ?_ NB333_336.out _; (with_reducible repeat (first | refine blk_drewN ?_ _ | refine blk_drew ?_ | refine blk_alloc ?_ _)); refine blk_far ?_ NB333_336.out _; (with_reducible repeat (first | refine blk_drewN ?_ _ | refine blk_drew ?_ | refine blk_alloc ?_ _)); refine blk_far ?_ NB333_336.out _; (with_reducible repeat (first | refine blk_drewN ?_ _ | refine blk_drew ?_ | refine blk_alloc ?_ _)); exact BK333.out⟩
              have n2_ : Aside0 (((((w26.setCell ⟨gb336, 0, none⟩ (.int .i64 x334000_2)).setCell ⟨gb336, 1, none⟩ (.int .i64 x334001_2)).setCell ⟨gb336, 2, none⟩ (.int .i64 x334002_2)).setCell ⟨gb336, 3, none⟩ (.int .i64 x334003_2)).heap[gb336]? = some (.cells #[.int .i64 x334000_2, .int .i64 x334001_2, .int .i64 x334002_2, .int .i64 x334003_2] 25 (0, 0))) := ⟨by (with_reducible repeat (first | refine blk_drewN ?_ _ | refine blk_drew ?_ | refine blk_alloc ?_ _)); refine blk_put (cs := #[.int .i64 x334000_2, .int .i64 x334001_2, .int .i64 x334002_2, .int .i64 0]) ?_ 3 _ rfl; (with_reducible repeat (first | refine blk_drewN ?_ _ | refine blk_drew ?_ | refine blk_alloc ?_ _)); refine blk_put (cs := #[.int .i64 x334000_2, .int .i64 x334001_2, .int .i64 0, .int .i64 0]) ?_ 2 _ rfl; (with_reducible repeat (first | refine blk_drewN ?_ _ | refine blk_drew ?_ | refine blk_alloc ?_ _)); refine blk_put (cs := #[.int .i64 x334000_2, .int .i64 0, .int .i64 0, .int .i64 0]) ?_ 1 _ rfl; (with_reducible repeat (first | refine blk_drewN ?_ _ | refine blk_drew ?_ | refine blk_alloc ?_ _)); refine blk_put (cs := #[.int .i64 0, .int .i64 0, .int .i64 0, .int .i64 0]) ?_ 0 _ rfl; (with_reducible repeat (first | refine blk_drewN ?_ _ | refine blk_drew ?_ | refine blk_alloc ?_ _)); exact BK336.out⟩
              have n3_ : Aside0 (Below w.heap.size w ((((w26.setCell ⟨gb336, 0, none⟩ (.int .i64 x334000_2)).setCell ⟨gb336, 1, none⟩ (.int .i64 x334001_2)).setCell ⟨gb336, 2, none⟩ (.int .i64 x334002_2)).setCell ⟨gb336, 3, none⟩ (.int .i64 x334003_2))) := ⟨by repeat (first | (with_reducible first | exact HB.out | apply below_alloc | apply pw_below_drewN | apply below_drew1 | refine below_set ?_ GE332.out | refine below_set ?_ GE333.out | refine below_set ?_ GE336.out) | exact HB.out)⟩
              (try clear BK332)
              (try clear BK333)
              (try clear BK336)
              (try clear HB)
              generalize ((((w26.setCell ⟨gb336, 0, none⟩ (.int .i64 x334000_2)).setCell ⟨gb336, 1, none⟩ (.int .i64 x334001_2)).setCell ⟨gb336, 2, none⟩ (.int .i64 x334002_2)).setCell ⟨gb336, 3, none⟩ (.int .i64 x334003_2)) = w68 at n0_ n1_ n2_ n3_ ⊢
              have BK332 := n0_
              have BK333 := n1_
              have BK336 := n2_
              have HB := n3_
              clear n0_ n1_ n2_ n3_
              have n0_ := Aside0.mk (blk_drew BK332.out)
              have n1_ := Aside0.mk (blk_drew BK333.out)
              have n2_ := Aside0.mk (blk_drew BK336.out)
              have n3_ := Aside0.mk (below_drew1 HB.out)
              clear BK332
              clear BK333
              clear BK336
              clear HB
              have BK332 := n0_
              have BK333 := n1_
              have BK336 := n2_
              have HB := n3_
              clear n0_ n1_ n2_ n3_
              have p360 : 0 ≤ (x7_2 : Int) := of_decide_eq_true (by first | (with_reducible assumption) | assumption)
              have q360 : x7_2 < (l2.length : Int) := of_decide_eq_true (by first | (with_reducible assumption) | assumption)
              obtain ⟨ad360, e360, hx360_0, hx360_1⟩ := at_T42 HR2.out x7_2 p360 q360
              have hw360_1 := hx360_1
              have hw360_0 := hx360_0
              obtain rfl : ad337 = ad360 := (by injection e360)
              replace hx360_0 := (HB.out.cell (World.block_lt_of_cell? w _ hx360_0)).trans hx360_0
              replace hx360_1 := (HB.out.cell (World.block_lt_of_cell? w _ hx360_1)).trans hx360_1
              replace p360 := eq_true p360
              replace q360 := eq_true q360
              refine start_ (n := 10) (S := fun w' => w'.cell? ⟨gb332, 0, none⟩ = some (.int .i64 a0_0) ∧ w'.cell? ⟨gb332, 1, none⟩ = some (.int .i64 a0_1) ∧ w'.cell? ⟨gb332, 2, none⟩ = some (.int .i64 a0_2) ∧ w'.cell? ⟨gb332, 3, none⟩ = some (.int .i64 a0_3) ∧ w'.cell? ⟨gb333, 0, none⟩ = some (.int .i64 x334000_2) ∧ w'.cell? ⟨gb333, 1, none⟩ = some (.int .i64 x334001_2) ∧ w'.cell? ⟨gb333, 2, none⟩ = some (.int .i64 x334002_2) ∧ w'.cell? ⟨gb333, 3, none⟩ = some (.int .i64 x334003_2) ∧ w'.cell? (ad337.add ((x7_2).toNat * 2)) = some (.int .i64 ((rd_T42 l2 x7_2).f0)) ∧ w'.cell? ⟨(ad337.add ((x7_2).toNat * 2)).block, (ad337.add ((x7_2).toNat * 2)).off + 1, none⟩ = some (.int .i64 ((rd_T42 l2 x7_2).f1))) (ds := []) #[false, false, false, false, false, false, false, false, false, false] (by kernel_rfl) rfl rfl ⟨(blk_cell BK332.out 0).trans rfl, (blk_cell BK332.out 1).trans rfl, (blk_cell BK332.out 2).trans rfl, (blk_cell BK332.out 3).trans rfl, (blk_cell BK333.out 0).trans rfl, (blk_cell BK333.out 1).trans rfl, (blk_cell BK333.out 2).trans rfl, (blk_cell BK333.out 3).trans rfl, ((HB.out.cell (World.block_lt_of_cell? w _ hw360_0)).trans hw360_0), ((HB.out.cell (World.block_lt_of_cell? w _ hw360_1)).trans hw360_1)⟩ (fun hHeld => ?_); refine with_tabW skiarealaw14_DriveValid.tab17 skiarealaw14_DriveValid.bits17 (fun HT_ HW_ => ?_)
              generalize w68.drew = w69 at BK332 BK333 BK336 HB hx360_0 hx360_1 hHeld ⊢
              refine pure_ (i := 2) (N := some 77) (v := ?_) (a' := ?_) #[false, false, true, false, false, false, false, false, false, false] rfl rfl (any_of HT_.out (by kernel_rfl)) (fun _ _ _ h => h) (Or.inl ⟨by rfl, ?_⟩) ?_ ?_
              rotate_left
              ·intro w'
               go_simp
               with_reducible rfl
              rotate_left
              ·simp only [Act.put, List.setIfInBounds_toArray, List.set_cons_zero, List.set_cons_succ, i64_w, i32_w]
               rfl
              refine pure_ (i := 3) (N := some 78) (v := ?_) (a' := ?_) #[false, false, true, true, false, false, false, false, false, false] rfl rfl (any_of HT_.out (by kernel_rfl)) (fun _ _ _ h => h) (Or.inl ⟨by rfl, ?_⟩) ?_ ?_
              rotate_left
              ·intro w'
               go_simp
               with_reducible rfl
              rotate_left
              ·simp only [Act.put, List.setIfInBounds_toArray, List.set_cons_zero, List.set_cons_succ, i64_w, i32_w]
               rfl
              refine pure_ (i := 4) (N := some 79) (v := ?_) (a' := ?_) #[false, false, true, true, true, false, false, false, false, false] rfl rfl (any_of HT_.out (by kernel_rfl)) (fun _ _ _ h => h) (Or.inl ⟨by rfl, ?_⟩) ?_ ?_
              rotate_left
              ·intro w'
               go_simp
               with_reducible rfl
              rotate_left
              ·simp only [Act.put, List.setIfInBounds_toArray, List.set_cons_zero, List.set_cons_succ, i64_w, i32_w]
               rfl
              refine pure_ (i := 5) (N := some 80) (v := ?_) (a' := ?_) #[false, false, true, true, true, true, false, false, false, false] rfl rfl (any_of HT_.out (by kernel_rfl)) (fun _ _ _ h => h) (Or.inl ⟨by rfl, ?_⟩) ?_ ?_
              rotate_left
              ·intro w'
               go_simp
               with_reducible rfl
              rotate_left
              ·simp only [Act.put, List.setIfInBounds_toArray, List.set_cons_zero, List.set_cons_succ, i64_w, i32_w]
               rfl
              refine take_ (i := 0) (N := some 75) (v := ?_) (a' := ?_) #[true, false, true, true, true, true, false, false, false, false] rfl rfl (take_ofW HT_.out HW_.out (by kernel_rfl)) (fun _ _ _ h => h) (Or.inl ⟨by rfl, ?_⟩) hHeld ?_ ?_
              rotate_left
              ·rintro w' ⟨s0, s1, s2, s3, s4, s5, s6, s7, s8, s9⟩
               go_simp
               with_reducible rfl
              rotate_left
              ·simp only [Act.put, List.setIfInBounds_toArray, List.set_cons_zero, List.set_cons_succ, i64_w, i32_w]
               rfl
              refine take_ (i := 1) (N := some 76) (v := ?_) (a' := ?_) #[true, true, true, true, true, true, false, false, false, false] rfl rfl (take_ofW HT_.out HW_.out (by kernel_rfl)) (fun _ _ _ h => h) (Or.inl ⟨by rfl, ?_⟩) hHeld ?_ ?_
              rotate_left
              ·rintro w' ⟨s0, s1, s2, s3, s4, s5, s6, s7, s8, s9⟩
               go_simp
               with_reducible rfl
              rotate_left
              ·simp only [Act.put, List.setIfInBounds_toArray, List.set_cons_zero, List.set_cons_succ, i64_w, i32_w]
               rfl
              refine take_ (i := 6) (N := some 81) (v := ?_) (a' := ?_) #[true, true, true, true, true, true, true, false, false, false] rfl rfl (take_ofW HT_.out HW_.out (by kernel_rfl)) (fun _ _ _ h => h) (Or.inl ⟨by rfl, ?_⟩) hHeld ?_ ?_
              rotate_left
              ·rintro w' ⟨s0, s1, s2, s3, s4, s5, s6, s7, s8, s9⟩
               go_simp
               with_reducible rfl
              rotate_left
              ·simp only [Act.put, List.setIfInBounds_toArray, List.set_cons_zero, List.set_cons_succ, i64_w, i32_w]
               rfl
              refine pure_ (i := 7) (N := some 82) (v := ?_) (a' := ?_) #[true, true, true, true, true, true, true, true, false, false] rfl rfl (any_of HT_.out (by kernel_rfl)) (fun _ _ _ h => h) (Or.inl ⟨by rfl, ?_⟩) ?_ ?_
              rotate_left
              ·intro w'
               go_simp
               with_reducible rfl
              rotate_left
              ·simp only [Act.put, List.setIfInBounds_toArray, List.set_cons_zero, List.set_cons_succ, i64_w, i32_w]
               rfl
              refine one_ (i := 8) (N := some 83) #[true, true, true, true, true, true, true, true, true, false] rfl rfl (one_of HT_.out (by kernel_rfl)) (by decide) (fun K hK => ?_)
              refine goes_ Try.func24 (by kernel_rfl) rfl #[.agg #[.int .i64 a0_0, .int .i64 a0_1, .int .i64 a0_2, .int .i64 a0_3], .agg #[.int .i64 x334000_2, .int .i64 x334001_2, .int .i64 x334002_2, .int .i64 x334003_2], .int .i64 ji66] (by rfl) rfl rfl (by (try simp only [List.map_toArray, List.map_cons, List.map_nil]); first | done | (simp only [hji66]; rfl) | rfl | (simp only [List.length_drop, List.length_take]; rfl)) ?_
              with_reducible refine (drive_Step.calls k2 a0_0 a0_1 a0_2 a0_3 x334000_2 x334001_2 x334002_2 x334003_2 ji66 t361 t362 t363 t364 _ A67.out).mono ?_
              rintro e w70 ⟨rfl, hb⟩
              refine ⟨_, rfl, ?_⟩
              have n0_ := Aside0.mk (bb_ BK332.out hb)
              have n1_ := Aside0.mk (bb_ BK333.out hb)
              have n2_ := Aside0.mk (bb_ BK336.out hb)
              have n3_ := Aside0.mk (below_step (by repeat (first | (with_reducible first | exact HB.out | apply below_alloc | apply pw_below_drewN | apply below_drew1 | refine below_set ?_ GE332.out | refine below_set ?_ GE333.out | refine below_set ?_ GE336.out) | exact HB.out)) hb)
              clear BK332
              clear BK333
              clear BK336
              clear HB
              have BK332 := n0_
              have BK333 := n1_
              have BK336 := n2_
              have HB := n3_
              clear n0_ n1_ n2_ n3_
              (try clear hb)
              (try clear hb2)
              (try clear hk)
              (try clear hi)
              refine hK.out _ _ ⟨(blk_cell BK332.out 0).trans rfl, (blk_cell BK332.out 1).trans rfl, (blk_cell BK332.out 2).trans rfl, (blk_cell BK332.out 3).trans rfl, (blk_cell BK333.out 0).trans rfl, (blk_cell BK333.out 1).trans rfl, (blk_cell BK333.out 2).trans rfl, (blk_cell BK333.out 3).trans rfl, ((HB.out.cell (World.block_lt_of_cell? w _ hw360_0)).trans hw360_0), ((HB.out.cell (World.block_lt_of_cell? w _ hw360_1)).trans hw360_1)⟩ (fun hHeld => ?_)
              clear hK K
              refine norm_ (a' := ?_) ?_ ?_
              rotate_left
              ·show Act.put _ (some 83) _ = _
               simp only [Act.put, List.setIfInBounds_toArray, List.set_cons_zero, List.set_cons_succ, i64_w, i32_w]
               rfl
              refine one_ (i := 9) (N := none) #[true, true, true, true, true, true, true, true, true, true] rfl rfl (one_of HT_.out (by kernel_rfl)) (by decide) (fun K hK => ?_)
              have hs71 : w70.cell? ⟨gb336, 0, none⟩ = some (.int .i64 x334000_2) := (blk_cell BK336.out 0).trans rfl
              have hfs71 := blk_frozen BK336.out 0
              have hns71_0 := NB332_336.out
              have hns71_1 := NB333_336.out
              have hms71_0 := NB336_332.out
              have hms71_1 := NB336_333.out
              have hs72 : w70.cell? ⟨gb336, 1, none⟩ = some (.int .i64 x334001_2) := (blk_cell BK336.out 1).trans rfl
              have hfs72 := blk_frozen BK336.out 1
              have hns72_0 := NB332_336.out
              have hns72_1 := NB333_336.out
              have hms72_0 := NB336_332.out
              have hms72_1 := NB336_333.out
              have hs73 : w70.cell? ⟨gb336, 2, none⟩ = some (.int .i64 x334002_2) := (blk_cell BK336.out 2).trans rfl
              have hfs73 := blk_frozen BK336.out 2
              have hns73_0 := NB332_336.out
              have hns73_1 := NB333_336.out
              have hms73_0 := NB336_332.out
              have hms73_1 := NB336_333.out
              have hs74 : w70.cell? ⟨gb336, 3, none⟩ = some (.int .i64 x334003_2) := (blk_cell BK336.out 3).trans rfl
              have hfs74 := blk_frozen BK336.out 3
              have hns74_0 := NB332_336.out
              have hns74_1 := NB333_336.out
              have hms74_0 := NB336_332.out
              have hms74_1 := NB336_333.out
              refine skip_ (w1 := ?_) (by rfl) rfl ?_ ?_
              rotate_left
              ·go_simp
               rfl
              refine hK.out _ _ ⟨((cell_far (p := ⟨gb336, _, none⟩) NB332_336.out _).trans (((cell_far (p := ⟨gb336, _, none⟩) NB332_336.out _).trans (((cell_far (p := ⟨gb336, _, none⟩) NB332_336.out _).trans (((cell_far (p := ⟨gb336, _, none⟩) NB332_336.out _).trans (hHeld.1)))))))), ((cell_far (p := ⟨gb336, _, none⟩) NB332_336.out _).trans (((cell_far (p := ⟨gb336, _, none⟩) NB332_336.out _).trans (((cell_far (p := ⟨gb336, _, none⟩) NB332_336.out _).trans (((cell_far (p := ⟨gb336, _, none⟩) NB332_336.out _).trans (hHeld.2.1)))))))), ((cell_far (p := ⟨gb336, _, none⟩) NB332_336.out _).trans (((cell_far (p := ⟨gb336, _, none⟩) NB332_336.out _).trans (((cell_far (p := ⟨gb336, _, none⟩) NB332_336.out _).trans (((cell_far (p := ⟨gb336, _, none⟩) NB332_336.out _).trans (hHeld.2.2.1)))))))), ((cell_far (p := ⟨gb336, _, none⟩) NB332_336.out _).trans (((cell_far (p := ⟨gb336, _, none⟩) NB332_336.out _).trans (((cell_far (p := ⟨gb336, _, none⟩) NB332_336.out _).trans (((cell_far (p := ⟨gb336, _, none⟩) NB332_336.out _).trans (hHeld.2.2.2.1)))))))), ((cell_far (p := ⟨gb336, _, none⟩) NB333_336.out _).trans (((cell_far (p := ⟨gb336, _, none⟩) NB333_336.out _).trans (((cell_far (p := ⟨gb336, _, none⟩) NB333_336.out _).trans (((cell_far (p := ⟨gb336, _, none⟩) NB333_336.out _).trans (hHeld.2.2.2.2.1)))))))), ((cell_far (p := ⟨gb336, _, none⟩) NB333_336.out _).trans (((cell_far (p := ⟨gb336, _, none⟩) NB333_336.out _).trans (((cell_far (p := ⟨gb336, _, none⟩) NB333_336.out _).trans (((cell_far (p := ⟨gb336, _, none⟩) NB333_336.out _).trans (hHeld.2.2.2.2.2.1)))))))), ((cell_far (p := ⟨gb336, _, none⟩) NB333_336.out _).trans (((cell_far (p := ⟨gb336, _, none⟩) NB333_336.out _).trans (((cell_far (p := ⟨gb336, _, none⟩) NB333_336.out _).trans (((cell_far (p := ⟨gb336, _, none⟩) NB333_336.out _).trans (hHeld.2.2.2.2.2.2.1)))))))), ((cell_far (p := ⟨gb336, _, none⟩) NB333_336.out _).trans (((cell_far (p := ⟨gb336, _, none⟩) NB333_336.out _).trans (((cell_far (p := ⟨gb336, _, none⟩) NB333_336.out _).trans (((cell_far (p := ⟨gb336, _, none⟩) NB333_336.out _).trans (hHeld.2.2.2.2.2.2.2.1)))))))), ((cell_far (p := ⟨gb336, _, none⟩) (by first | exact Nat.ne_of_lt (Nat.lt_of_lt_of_le (by have := World.block_lt_of_cell? _ _ hw360_0; first | rwa [add_block] at this | exact this) GW336.out) | (rw [add_block]; exact Nat.ne_of_lt (Nat.lt_of_lt_of_le (by have := World.block_lt_of_cell? _ _ hw360_0; first | rwa [add_block] at this | exact this) GW336.out)) | (show (Addr.add _ _).block ≠ _; rw [add_block]; exact Nat.ne_of_lt (Nat.lt_of_lt_of_le (by have := World.block_lt_of_cell? _ _ hw360_0; first | rwa [add_block] at this | exact this) GW336.out)) | (dsimp only; exact Nat.ne_of_lt (Nat.lt_of_lt_of_le (by have := World.block_lt_of_cell? _ _ hw360_0; first | rwa [add_block] at this | exact this) GW336.out))) _).trans (((cell_far (p := ⟨gb336, _, none⟩) (by first | exact Nat.ne_of_lt (Nat.lt_of_lt_of_le (by have := World.block_lt_of_cell? _ _ hw360_0; first | rwa [add_block] at this | exact this) GW336.out) | (rw [add_block]; exact Nat.ne_of_lt (Nat.lt_of_lt_of_le (by have := World.block_lt_of_cell? _ _ hw360_0; first | rwa [add_block] at this | exact this) GW336.out)) | (show (Addr.add _ _).block ≠ _; rw [add_block]; exact Nat.ne_of_lt (Nat.lt_of_lt_of_le (by have := World.block_lt_of_cell? _ _ hw360_0; first | rwa [add_block] at this | exact this) GW336.out)) | (dsimp only; exact Nat.ne_of_lt (Nat.lt_of_lt_of_le (by have := World.block_lt_of_cell? _ _ hw360_0; first | rwa [add_block] at this | exact this) GW336.out))) _).trans (((cell_far (p := ⟨gb336, _, none⟩) (by first | exact Nat.ne_of_lt (Nat.lt_of_lt_of_le (by have := World.block_lt_of_cell? _ _ hw360_0; first | rwa [add_block] at this | exact this) GW336.out) | (rw [add_block]; exact Nat.ne_of_lt (Nat.lt_of_lt_of_le (by have := World.block_lt_of_cell? _ _ hw360_0; first | rwa [add_block] at this | exact this) GW336.out)) | (show (Addr.add _ _).block ≠ _; rw [add_block]; exact Nat.ne_of_lt (Nat.lt_of_lt_of_le (by have := World.block_lt_of_cell? _ _ hw360_0; first | rwa [add_block] at this | exact this) GW336.out)) | (dsimp only; exact Nat.ne_of_lt (Nat.lt_of_lt_of_le (by have := World.block_lt_of_cell? _ _ hw360_0; first | rwa [add_block] at this | exact this) GW336.out))) _).trans (((cell_far (p := ⟨gb336, _, none⟩) (by first | exact Nat.ne_of_lt (Nat.lt_of_lt_of_le (by have := World.block_lt_of_cell? _ _ hw360_0; first | rwa [add_block] at this | exact this) GW336.out) | (rw [add_block]; exact Nat.ne_of_lt (Nat.lt_of_lt_of_le (by have := World.block_lt_of_cell? _ _ hw360_0; first | rwa [add_block] at this | exact this) GW336.out)) | (show (Addr.add _ _).block ≠ _; rw [add_block]; exact Nat.ne_of_lt (Nat.lt_of_lt_of_le (by have := World.block_lt_of_cell? _ _ hw360_0; first | rwa [add_block] at this | exact this) GW336.out)) | (dsimp only; exact Nat.ne_of_lt (Nat.lt_of_lt_of_le (by have := World.block_lt_of_cell? _ _ hw360_0; first | rwa [add_block] at this | exact this) GW336.out))) _).trans (hHeld.2.2.2.2.2.2.2.2.1)))))))), ((cell_far (p := ⟨gb336, _, none⟩) (by first | exact Nat.ne_of_lt (Nat.lt_of_lt_of_le (by have := World.block_lt_of_cell? _ _ hw360_1; first | rwa [add_block] at this | exact this) GW336.out) | (rw [add_block]; exact Nat.ne_of_lt (Nat.lt_of_lt_of_le (by have := World.block_lt_of_cell? _ _ hw360_1; first | rwa [add_block] at this | exact this) GW336.out)) | (show (Addr.add _ _).block ≠ _; rw [add_block]; exact Nat.ne_of_lt (Nat.lt_of_lt_of_le (by have := World.block_lt_of_cell? _ _ hw360_1; first | rwa [add_block] at this | exact this) GW336.out)) | (dsimp only; exact Nat.ne_of_lt (Nat.lt_of_lt_of_le (by have := World.block_lt_of_cell? _ _ hw360_1; first | rwa [add_block] at this | exact this) GW336.out))) _).trans (((cell_far (p := ⟨gb336, _, none⟩) (by first | exact Nat.ne_of_lt (Nat.lt_of_lt_of_le (by have := World.block_lt_of_cell? _ _ hw360_1; first | rwa [add_block] at this | exact this) GW336.out) | (rw [add_block]; exact Nat.ne_of_lt (Nat.lt_of_lt_of_le (by have := World.block_lt_of_cell? _ _ hw360_1; first | rwa [add_block] at this | exact this) GW336.out)) | (show (Addr.add _ _).block ≠ _; rw [add_block]; exact Nat.ne_of_lt (Nat.lt_of_lt_of_le (by have := World.block_lt_of_cell? _ _ hw360_1; first | rwa [add_block] at this | exact this) GW336.out)) | (dsimp only; exact Nat.ne_of_lt (Nat.lt_of_lt_of_le (by have := World.block_lt_of_cell? _ _ hw360_1; first | rwa [add_block] at this | exact this) GW336.out))) _).trans (((cell_far (p := ⟨gb336, _, none⟩) (by first | exact Nat.ne_of_lt (Nat.lt_of_lt_of_le (by have := World.block_lt_of_cell? _ _ hw360_1; first | rwa [add_block] at this | exact this) GW336.out) | (rw [add_block]; exact Nat.ne_of_lt (Nat.lt_of_lt_of_le (by have := World.block_lt_of_cell? _ _ hw360_1; first | rwa [add_block] at this | exact this) GW336.out)) | (show (Addr.add _ _).block ≠ _; rw [add_block]; exact Nat.ne_of_lt (Nat.lt_of_lt_of_le (by have := World.block_lt_of_cell? _ _ hw360_1; first | rwa [add_block] at this | exact this) GW336.out)) | (dsimp only; exact Nat.ne_of_lt (Nat.lt_of_lt_of_le (by have := World.block_lt_of_cell? _ _ hw360_1; first | rwa [add_block] at this | exact this) GW336.out))) _).trans (((cell_far (p := ⟨gb336, _, none⟩) (by first | exact Nat.ne_of_lt (Nat.lt_of_lt_of_le (by have := World.block_lt_of_cell? _ _ hw360_1; first | rwa [add_block] at this | exact this) GW336.out) | (rw [add_block]; exact Nat.ne_of_lt (Nat.lt_of_lt_of_le (by have := World.block_lt_of_cell? _ _ hw360_1; first | rwa [add_block] at this | exact this) GW336.out)) | (show (Addr.add _ _).block ≠ _; rw [add_block]; exact Nat.ne_of_lt (Nat.lt_of_lt_of_le (by have := World.block_lt_of_cell? _ _ hw360_1; first | rwa [add_block] at this | exact this) GW336.out)) | (dsimp only; exact Nat.ne_of_lt (Nat.lt_of_lt_of_le (by have := World.block_lt_of_cell? _ _ hw360_1; first | rwa [add_block] at this | exact this) GW336.out))) _).trans (hHeld.2.2.2.2.2.2.2.2.2))))))))⟩ (fun hHeld => ?_)
              clear hK K
              refine done_ (done_of HT_.out (by kernel_rfl)) ?_
              try go_wp2
              go_meet
              case rel => exact ⟨_, (0), (t361), (t362), (t363), (t364), (by first | rfl | (simp; done) | (simp [*]; done)), H', ⟨by have := HJ5.out; have := HK2.out; first | omega | exact Nat.le_refl _⟩, ⟨by (with_reducible repeat (first | refine blk_drewN ?_ _ | refine blk_drew ?_ | refine blk_alloc ?_ _)); refine blk_far ?_ NB332_336.out _; (with_reducible repeat (first | refine blk_drewN ?_ _ | refine blk_drew ?_ | refine blk_alloc ?_ _)); refine blk_far ?_ NB332_336.out _; (with_reducible repeat (first | refine blk_drewN ?_ _ | refine blk_drew ?_ | refine blk_alloc ?_ _)); refine blk_far ?_ NB332_336.out _; (with_reducible repeat (first | refine blk_drewN ?_ _ | refine blk_drew ?_ | refine blk_alloc ?_ _)); refine blk_far ?_ NB332_336.out _; (with_reducible repeat (first | refine blk_drewN ?_ _ | refine blk_drew ?_ | refine blk_alloc ?_ _)); exact BK332.out⟩, ⟨by (with_reducible repeat (first | refine blk_drewN ?_ _ | refine blk_drew ?_ | refine blk_alloc ?_ _)); refine blk_far ?_ NB333_336.out _; (with_reducible repeat (first | refine blk_drewN ?_ _ | refine blk_drew ?_ | refine blk_alloc ?_ _)); refine blk_far ?_ NB333_336.out _; (with_reducible repeat (first | refine blk_drewN ?_ _ | refine blk_drew ?_ | refine blk_alloc ?_ _)); refine blk_far ?_ NB333_336.out _; (with_reducible repeat (first | refine blk_drewN ?_ _ | refine blk_drew ?_ | refine blk_alloc ?_ _)); refine blk_far ?_ NB333_336.out _; (with_reducible repeat (first | refine blk_drewN ?_ _ | refine blk_drew ?_ | refine blk_alloc ?_ _)); exact BK333.out⟩, ⟨by (with_reducible repeat (first | refine blk_drewN ?_ _ | refine blk_drew ?_ | refine blk_alloc ?_ _)); refine blk_put (cs := #[.int .i64 t361, .int .i64 t362, .int .i64 t363, .int .i64 x334003_2]) ?_ 3 _ rfl; (with_reducible repeat (first | refine blk_drewN ?_ _ | refine blk_drew ?_ | refine blk_alloc ?_ _)); refine blk_put (cs := #[.int .i64 t361, .int .i64 t362, .int .i64 x334002_2, .int .i64 x334003_2]) ?_ 2 _ rfl; (with_reducible repeat (first | refine blk_drewN ?_ _ | refine blk_drew ?_ | refine blk_alloc ?_ _)); refine blk_put (cs := #[.int .i64 t361, .int .i64 x334001_2, .int .i64 x334002_2, .int .i64 x334003_2]) ?_ 1 _ rfl; (with_reducible repeat (first | refine blk_drewN ?_ _ | refine blk_drew ?_ | refine blk_alloc ?_ _)); refine blk_put (cs := #[.int .i64 x334000_2, .int .i64 x334001_2, .int .i64 x334002_2, .int .i64 x334003_2]) ?_ 0 _ rfl; (with_reducible repeat (first | refine blk_drewN ?_ _ | refine blk_drew ?_ | refine blk_alloc ?_ _)); exact BK336.out⟩, ⟨by repeat (first | (with_reducible first | exact HB.out | apply below_alloc | apply pw_below_drewN | apply below_drew1 | refine below_set ?_ GE332.out | refine below_set ?_ GE333.out | refine below_set ?_ GE336.out) | exact HB.out)⟩⟩
         case rest =>
          clear HC23
          try clear c1
          try clear c2
          try clear p2
          try clear c3
          try clear p3
          try clear q3
          try clear hx3
          try clear c4
          try clear c5
          try clear c6
          try clear c18
          try clear c20
          try clear c22
          try clear c24
          try clear c30
          try clear c30b0
          try clear c30b1
          try clear p34
          try clear q34
          try clear hx34
          try clear p35
          try clear q35
          try clear hx35
          try clear p36
          try clear q36
          try clear hx36
          try clear c39
          try clear c39b0
          try clear c39b1
          try clear c41
          try clear c42
          try clear c44
          try clear c48
          try clear c48b0
          try clear c48b1
          try clear c50
          try clear c51
          try clear c53
          try clear c57
          try clear c57b0
          try clear c57b1
          try clear c59
          try clear c60
          try clear c62
          try clear hcz43_0
          try clear hcz43_1
          try clear hcz43_2
          try clear hcz43_3
          try clear hcz45_0
          try clear hcz45_1
          try clear hcz45_2
          try clear hcz45_3
          try clear hcz47_0
          try clear hcz47_1
          try clear hcz47_2
          try clear hcz47_3
          try clear hcz52_0
          try clear hcz52_1
          try clear hcz52_2
          try clear hcz52_3
          try clear hcz54_0
          try clear hcz54_1
          try clear hcz54_2
          try clear hcz54_3
          try clear hcz56_0
          try clear hcz56_1
          try clear hcz56_2
          try clear hcz56_3
          try clear hcz61_0
          try clear hcz61_1
          try clear hcz61_2
          try clear hcz61_3
          try clear hcz63_0
          try clear hcz63_1
          try clear hcz63_2
          try clear hcz63_3
          try clear hcz65_0
          try clear hcz65_1
          try clear hcz65_2
          try clear hcz65_3
          try clear hfz43_0
          try clear hfz43_1
          try clear hfz43_2
          try clear hfz43_3
          try clear hfz45_0
          try clear hfz45_1
          try clear hfz45_2
          try clear hfz45_3
          try clear hfz47_0
          try clear hfz47_1
          try clear hfz47_2
          try clear hfz47_3
          try clear hfz52_0
          try clear hfz52_1
          try clear hfz52_2
          try clear hfz52_3
          try clear hfz54_0
          try clear hfz54_1
          try clear hfz54_2
          try clear hfz54_3
          try clear hfz56_0
          try clear hfz56_1
          try clear hfz56_2
          try clear hfz56_3
          try clear hfz61_0
          try clear hfz61_1
          try clear hfz61_2
          try clear hfz61_3
          try clear hfz63_0
          try clear hfz63_1
          try clear hfz63_2
          try clear hfz63_3
          try clear hfz65_0
          try clear hfz65_1
          try clear hfz65_2
          try clear hfz65_3
          try clear hx344_0
          try clear hx344_1
          try clear hx349_0
          try clear hx349_1
          try clear hx354_0
          try clear hx354_1
          try clear hx360_0
          try clear hx360_1
          try clear p344
          try clear p349
          try clear p354
          try clear p360
          try clear q344
          try clear q349
          try clear q354
          try clear q360
          obtain ⟨kq, x9_22, x337000_22, x337001_22, x337002_22, x337003_22, rfl, HA, HJ22, BK332, BK333, BK336, HB⟩ := hcut
          cases kq with
          | zero => exact absurd HA.out (by simp [skiarealaw14_DriveValid.j2])
          | succ kj22 =>
           have H := HA.out
           clear HA
           simp only [skiarealaw14_DriveValid.j2] at H
           by_cases c75 : x9_22 = 0
           ·rw [if_pos c75] at H
            have c75b0 : (x9_22 == 0) = true := beq_iff_eq.mpr c75
            have c75b1 : (x9_22 != 0) = false := bne_eq_false_iff_eq.mpr c75
            clear c75
            replace H := Option.bind_eq_some_iff.mp H
            obtain ⟨t365, A760, H⟩ := H
            replace H : (if t365 = true then (if 0 ≤ x7_2 then (if x7_2 < (l2.length : Int) then (if ((rd_T42 l2 x7_2).f0) ≥ 0 then (if ((rd_T42 l2 x7_2).f0) ≤ 3 then (if x337003_22 = x334003_2 then (if x337001_22 = x334001_2 then (if x334000_2 = 3 then (if ((rd_T42 l2 x7_2).f0) = 3 then (skiarealaw14_DriveValid.l0 kj22 l2 (wrap64 (x7_2 + 1)) a0_0 a0_1 a0_2 a0_3 x337000_22 x337001_22 x337002_22 x337003_22) else (if x337000_22 = 3 then (skiarealaw14_DriveValid.l0 kj22 l2 (wrap64 (x7_2 + 1)) a0_0 a0_1 a0_2 a0_3 x337000_22 x337001_22 x337002_22 x337003_22) else (none))) else (skiarealaw14_DriveValid.l0 kj22 l2 (wrap64 (x7_2 + 1)) a0_0 a0_1 a0_2 a0_3 x337000_22 x337001_22 x337002_22 x337003_22)) else (none)) else (none)) else (if x334000_2 = 3 then (if ((rd_T42 l2 x7_2).f0) = 3 then (skiarealaw14_DriveValid.l0 kj22 l2 (wrap64 (x7_2 + 1)) a0_0 a0_1 a0_2 a0_3 x337000_22 x337001_22 x337002_22 x337003_22) else (if x337000_22 = 3 then (skiarealaw14_DriveValid.l0 kj22 l2 (wrap64 (x7_2 + 1)) a0_0 a0_1 a0_2 a0_3 x337000_22 x337001_22 x337002_22 x337003_22) else (none))) else (skiarealaw14_DriveValid.l0 kj22 l2 (wrap64 (x7_2 + 1)) a0_0 a0_1 a0_2 a0_3 x337000_22 x337001_22 x337002_22 x337003_22))) else (if x334000_2 = 3 then (if ((rd_T42 l2 x7_2).f0) = 3 then (skiarealaw14_DriveValid.l0 kj22 l2 (wrap64 (x7_2 + 1)) a0_0 a0_1 a0_2 a0_3 x337000_22 x337001_22 x337002_22 x337003_22) else (if x337000_22 = 3 then (skiarealaw14_DriveValid.l0 kj22 l2 (wrap64 (x7_2 + 1)) a0_0 a0_1 a0_2 a0_3 x337000_22 x337001_22 x337002_22 x337003_22) else (none))) else (skiarealaw14_DriveValid.l0 kj22 l2 (wrap64 (x7_2 + 1)) a0_0 a0_1 a0_2 a0_3 x337000_22 x337001_22 x337002_22 x337003_22))) else (none)) else (none)) else (none)) = some r := H
            have A76 := Aside0.mk A760
            clear A760
            by_cases c77 : t365 = true
            ·subst c77
             have H1 : (if 0 ≤ x7_2 then (if x7_2 < (l2.length : Int) then (if ((rd_T42 l2 x7_2).f0) ≥ 0 then (if ((rd_T42 l2 x7_2).f0) ≤ 3 then (if x337003_22 = x334003_2 then (if x337001_22 = x334001_2 then (if x334000_2 = 3 then (if ((rd_T42 l2 x7_2).f0) = 3 then (skiarealaw14_DriveValid.l0 kj22 l2 (wrap64 (x7_2 + 1)) a0_0 a0_1 a0_2 a0_3 x337000_22 x337001_22 x337002_22 x337003_22) else (if x337000_22 = 3 then (skiarealaw14_DriveValid.l0 kj22 l2 (wrap64 (x7_2 + 1)) a0_0 a0_1 a0_2 a0_3 x337000_22 x337001_22 x337002_22 x337003_22) else (none))) else (skiarealaw14_DriveValid.l0 kj22 l2 (wrap64 (x7_2 + 1)) a0_0 a0_1 a0_2 a0_3 x337000_22 x337001_22 x337002_22 x337003_22)) else (none)) else (none)) else (if x334000_2 = 3 then (if ((rd_T42 l2 x7_2).f0) = 3 then (skiarealaw14_DriveValid.l0 kj22 l2 (wrap64 (x7_2 + 1)) a0_0 a0_1 a0_2 a0_3 x337000_22 x337001_22 x337002_22 x337003_22) else (if x337000_22 = 3 then (skiarealaw14_DriveValid.l0 kj22 l2 (wrap64 (x7_2 + 1)) a0_0 a0_1 a0_2 a0_3 x337000_22 x337001_22 x337002_22 x337003_22) else (none))) else (skiarealaw14_DriveValid.l0 kj22 l2 (wrap64 (x7_2 + 1)) a0_0 a0_1 a0_2 a0_3 x337000_22 x337001_22 x337002_22 x337003_22))) else (if x334000_2 = 3 then (if ((rd_T42 l2 x7_2).f0) = 3 then (skiarealaw14_DriveValid.l0 kj22 l2 (wrap64 (x7_2 + 1)) a0_0 a0_1 a0_2 a0_3 x337000_22 x337001_22 x337002_22 x337003_22) else (if x337000_22 = 3 then (skiarealaw14_DriveValid.l0 kj22 l2 (wrap64 (x7_2 + 1)) a0_0 a0_1 a0_2 a0_3 x337000_22 x337001_22 x337002_22 x337003_22) else (none))) else (skiarealaw14_DriveValid.l0 kj22 l2 (wrap64 (x7_2 + 1)) a0_0 a0_1 a0_2 a0_3 x337000_22 x337001_22 x337002_22 x337003_22))) else (none)) else (none)) = some r := by rw [if_pos rfl] at H; exact H
             clear H
             have H := H1
             clear H1
             by_cases c78 : 0 ≤ x7_2
             ·rw [if_pos c78] at H
              have c78b0 : decide (0 ≤ x7_2) = true := decide_eq_true c78
              clear c78
              by_cases c79 : x7_2 < (l2.length : Int)
              ·rw [if_pos c79] at H
               have c79b0 : decide (x7_2 < (l2.length : Int)) = true := decide_eq_true c79
               clear c79
               by_cases c80 : ((rd_T42 l2 x7_2).f0) ≥ 0
               ·rw [if_pos c80] at H
                have c80b0 : decide (0 ≤ ((rd_T42 l2 x7_2).f0)) = true := decide_eq_true c80
                clear c80
                by_cases c81 : ((rd_T42 l2 x7_2).f0) ≤ 3
                ·rw [if_pos c81] at H
                 have c81b0 : decide (((rd_T42 l2 x7_2).f0) ≤ 3) = true := decide_eq_true c81
                 clear c81
                 by_cases c82 : x337003_22 = x334003_2
                 ·rw [if_pos c82] at H
                  have c82b0 : (x337003_22 == x334003_2) = true := beq_iff_eq.mpr c82
                  have c82b1 : (x337003_22 != x334003_2) = false := bne_eq_false_iff_eq.mpr c82
                  clear c82
                  by_cases c83 : x337001_22 = x334001_2
                  ·rw [if_pos c83] at H
                   have c83b0 : (x337001_22 == x334001_2) = true := beq_iff_eq.mpr c83
                   have c83b1 : (x337001_22 != x334001_2) = false := bne_eq_false_iff_eq.mpr c83
                   clear c83
                   by_cases c84 : x334000_2 = 3
                   ·rw [if_pos c84] at H
                    have c84b0 : (x334000_2 == 3) = true := beq_iff_eq.mpr c84
                    have c84b1 : (x334000_2 != 3) = false := bne_eq_false_iff_eq.mpr c84
                    clear c84
                    by_cases c85 : ((rd_T42 l2 x7_2).f0) = 3
                    ·rw [if_pos c85] at H
                     have c85b0 : (((rd_T42 l2 x7_2).f0) == 3) = true := beq_iff_eq.mpr c85
                     have c85b1 : (((rd_T42 l2 x7_2).f0) != 3) = false := bne_eq_false_iff_eq.mpr c85
                     clear c85
                     have H' := Aside0.mk H
                     clear H
                     have hnb86 := NB332_333.out
                     have hnc86 := NB333_332.out
                     have hnb87 := NB332_336.out
                     have hnc87 := NB336_332.out
                     have hcz88_0 : wc.cell? ⟨gb332, 0, none⟩ = some (.int .i64 a0_0) := (blk_cell BK332.out 0).trans rfl
                     have hcz88_1 : wc.cell? ⟨gb332, 1, none⟩ = some (.int .i64 a0_1) := (blk_cell BK332.out 1).trans rfl
                     have hcz88_2 : wc.cell? ⟨gb332, 2, none⟩ = some (.int .i64 a0_2) := (blk_cell BK332.out 2).trans rfl
                     have hcz88_3 : wc.cell? ⟨gb332, 3, none⟩ = some (.int .i64 a0_3) := (blk_cell BK332.out 3).trans rfl
                     have hfz88_0 := blk_frozen BK332.out 0
                     have hfz88_1 := blk_frozen BK332.out 1
                     have hfz88_2 := blk_frozen BK332.out 2
                     have hfz88_3 := blk_frozen BK332.out 3
                     have hnb89 := NB336_333.out
                     have hnc89 := NB333_336.out
                     have hcz90_0 : wc.cell? ⟨gb336, 0, none⟩ = some (.int .i64 x337000_22) := (blk_cell BK336.out 0).trans rfl
                     have hcz90_1 : wc.cell? ⟨gb336, 1, none⟩ = some (.int .i64 x337001_22) := (blk_cell BK336.out 1).trans rfl
                     have hcz90_2 : wc.cell? ⟨gb336, 2, none⟩ = some (.int .i64 x337002_22) := (blk_cell BK336.out 2).trans rfl
                     have hcz90_3 : wc.cell? ⟨gb336, 3, none⟩ = some (.int .i64 x337003_22) := (blk_cell BK336.out 3).trans rfl
                     have hfz90_0 := blk_frozen BK336.out 0
                     have hfz90_1 := blk_frozen BK336.out 1
                     have hfz90_2 := blk_frozen BK336.out 2
                     have hfz90_3 := blk_frozen BK336.out 3
                     go_wp2_with (first | ((with_reducible refine gate_callee (f := 13) rfl ?_); refine goesL_ (some 91) rfl rfl Try.func13 (by kernel_rfl) rfl #[.agg #[.int .i64 a0_0, .int .i64 a0_1, .int .i64 a0_2, .int .i64 a0_3], .agg #[.int .i64 x337000_22, .int .i64 x337001_22, .int .i64 x337002_22, .int .i64 x337003_22]] rfl (by (try simp only [List.map_toArray, List.map_cons, List.map_nil]); first | done | rfl | (simp only [List.length_drop, List.length_take]; rfl)) ?_; (with_reducible refine (drive_Valid.calls kj22 a0_0 a0_1 a0_2 a0_3 x337000_22 x337001_22 x337002_22 x337003_22 true _ A76.out).mono ?_); rintro e w91 ⟨rfl, hb⟩; refine ⟨_, rfl, ?_⟩; have n0_ := Aside0.mk (bb_ BK332.out hb); have n1_ := Aside0.mk (bb_ BK333.out hb); have n2_ := Aside0.mk (bb_ BK336.out hb); have n3_ := Aside0.mk (below_step (by repeat (first | (with_reducible first | exact HB.out | apply below_alloc | apply pw_below_drewN | apply below_drew1 | refine below_set ?_ GE332.out | refine below_set ?_ GE333.out | refine below_set ?_ GE336.out) | exact HB.out)) hb); clear BK332; clear BK333; clear BK336; clear HB; have BK332 := n0_; have BK333 := n1_; have BK336 := n2_; have HB := n3_; clear n0_ n1_ n2_ n3_; (try clear hb); (try clear hb2); (try clear hk); (try clear hi); have p366 : 0 ≤ (x7_2 : Int) := of_decide_eq_true (by first | (with_reducible assumption) | assumption); have q366 : x7_2 < (l2.length : Int) := of_decide_eq_true (by first | (with_reducible assumption) | assumption); obtain ⟨ad366, e366, hx366_0, hx366_1⟩ := at_T42 HR2.out x7_2 p366 q366; obtain rfl : ad337 = ad366 := (by injection e366); replace hx366_0 := (HB.out.cell (World.block_lt_of_cell? w _ hx366_0)).trans hx366_0; replace hx366_1 := (HB.out.cell (World.block_lt_of_cell? w _ hx366_1)).trans hx366_1; replace p366 := eq_true p366; replace q366 := eq_true q366; have p367 : 0 ≤ (x7_2 : Int) := of_decide_eq_true (by first | (with_reducible assumption) | assumption); have q367 : x7_2 < (l2.length : Int) := of_decide_eq_true (by first | (with_reducible assumption) | assumption); obtain ⟨ad367, e367, hx367_0, hx367_1⟩ := at_T42 HR2.out x7_2 p367 q367; obtain rfl : ad337 = ad367 := (by injection e367); replace hx367_0 := (HB.out.cell (World.block_lt_of_cell? w _ hx367_0)).trans hx367_0; replace hx367_1 := (HB.out.cell (World.block_lt_of_cell? w _ hx367_1)).trans hx367_1; replace p367 := eq_true p367; replace q367 := eq_true q367; have hcz92_0 : w91.cell? ⟨gb336, 0, none⟩ = some (.int .i64 x337000_22) := (blk_cell BK336.out 0).trans rfl; have hcz92_1 : w91.cell? ⟨gb336, 1, none⟩ = some (.int .i64 x337001_22) := (blk_cell BK336.out 1).trans rfl; have hcz92_2 : w91.cell? ⟨gb336, 2, none⟩ = some (.int .i64 x337002_22) := (blk_cell BK336.out 2).trans rfl; have hcz92_3 : w91.cell? ⟨gb336, 3, none⟩ = some (.int .i64 x337003_22) := (blk_cell BK336.out 3).trans rfl; have hfz92_0 := blk_frozen BK336.out 0; have hfz92_1 := blk_frozen BK336.out 1; have hfz92_2 := blk_frozen BK336.out 2; have hfz92_3 := blk_frozen BK336.out 3; have hcz93_0 : w91.cell? ⟨gb333, 0, none⟩ = some (.int .i64 x334000_2) := (blk_cell BK333.out 0).trans rfl; have hcz93_1 : w91.cell? ⟨gb333, 1, none⟩ = some (.int .i64 x334001_2) := (blk_cell BK333.out 1).trans rfl; have hcz93_2 : w91.cell? ⟨gb333, 2, none⟩ = some (.int .i64 x334002_2) := (blk_cell BK333.out 2).trans rfl; have hcz93_3 : w91.cell? ⟨gb333, 3, none⟩ = some (.int .i64 x334003_2) := (blk_cell BK333.out 3).trans rfl; have hfz93_0 := blk_frozen BK333.out 0; have hfz93_1 := blk_frozen BK333.out 1; have hfz93_2 := blk_frozen BK333.out 2; have hfz93_3 := blk_frozen BK333.out 3; have p368 : 0 ≤ (x7_2 : Int) := of_decide_eq_true (by first | (with_reducible assumption) | assumption); have q368 : x7_2 < (l2.length : Int) := of_decide_eq_true (by first | (with_reducible assumption) | assumption); obtain ⟨ad368, e368, hx368_0, hx368_1⟩ := at_T42 HR2.out x7_2 p368 q368; obtain rfl : ad337 = ad368 := (by injection e368); replace hx368_0 := (HB.out.cell (World.block_lt_of_cell? w _ hx368_0)).trans hx368_0; replace hx368_1 := (HB.out.cell (World.block_lt_of_cell? w _ hx368_1)).trans hx368_1; replace p368 := eq_true p368; replace q368 := eq_true q368))
                     go_roundg kj22
                     case measure => have := HJ5.out; have := HK2.out; have := HJ22.out; omega
                     case rel => exact ⟨(wrap64 (x7_2 + 1)), (x337000_22), (x337001_22), (x337002_22), (x337003_22), (by first | rfl | (simp; done) | (simp [*]; done)), H', ⟨by have := HJ5.out; have := HK2.out; have := HJ22.out; omega⟩, ⟨by (with_reducible repeat (first | refine blk_drewN ?_ _ | refine blk_drew ?_ | refine blk_alloc ?_ _)); refine blk_far ?_ NB332_333.out _; (with_reducible repeat (first | refine blk_drewN ?_ _ | refine blk_drew ?_ | refine blk_alloc ?_ _)); refine blk_far ?_ NB332_333.out _; (with_reducible repeat (first | refine blk_drewN ?_ _ | refine blk_drew ?_ | refine blk_alloc ?_ _)); refine blk_far ?_ NB332_333.out _; (with_reducible repeat (first | refine blk_drewN ?_ _ | refine blk_drew ?_ | refine blk_alloc ?_ _)); refine blk_far ?_ NB332_333.out _; (with_reducible repeat (first | refine blk_drewN ?_ _ | refine blk_drew ?_ | refine blk_alloc ?_ _)); exact BK332.out⟩, ⟨by (with_reducible repeat (first | refine blk_drewN ?_ _ | refine blk_drew ?_ | refine blk_alloc ?_ _)); refine blk_put (cs := #[.int .i64 x337000_22, .int .i64 x337001_22, .int .i64 x337002_22, .int .i64 x334003_2]) ?_ 3 _ rfl; (with_reducible repeat (first | refine blk_drewN ?_ _ | refine blk_drew ?_ | refine blk_alloc ?_ _)); refine blk_put (cs := #[.int .i64 x337000_22, .int .i64 x337001_22, .int .i64 x334002_2, .int .i64 x334003_2]) ?_ 2 _ rfl; (with_reducible repeat (first | refine blk_drewN ?_ _ | refine blk_drew ?_ | refine blk_alloc ?_ _)); refine blk_put (cs := #[.int .i64 x337000_22, .int .i64 x334001_2, .int .i64 x334002_2, .int .i64 x334003_2]) ?_ 1 _ rfl; (with_reducible repeat (first | refine blk_drewN ?_ _ | refine blk_drew ?_ | refine blk_alloc ?_ _)); refine blk_put (cs := #[.int .i64 x334000_2, .int .i64 x334001_2, .int .i64 x334002_2, .int .i64 x334003_2]) ?_ 0 _ rfl; (with_reducible repeat (first | refine blk_drewN ?_ _ | refine blk_drew ?_ | refine blk_alloc ?_ _)); exact BK333.out⟩, ⟨by repeat (first | (with_reducible first | exact HB.out | apply below_alloc | apply pw_below_drewN | apply below_drew1 | refine below_set ?_ GE332.out | refine below_set ?_ GE333.out | refine below_set ?_ GE336.out) | exact HB.out)⟩⟩
                    ·rw [if_neg c85] at H
                     have c85b0 : (((rd_T42 l2 x7_2).f0) == 3) = false := beq_eq_false_iff_ne.mpr c85
                     have c85b1 : (((rd_T42 l2 x7_2).f0) != 3) = true := bne_iff_ne.mpr c85
                     by_cases c94 : x337000_22 = 3
                     ·rw [if_pos c94] at H
                      have c94b0 : (x337000_22 == 3) = true := beq_iff_eq.mpr c94
                      have c94b1 : (x337000_22 != 3) = false := bne_eq_false_iff_eq.mpr c94
                      clear c94
                      have H' := Aside0.mk H
                      clear H
                      have hnb95 := NB332_333.out
                      have hnc95 := NB333_332.out
                      have hnb96 := NB332_336.out
                      have hnc96 := NB336_332.out
                      have hcz97_0 : wc.cell? ⟨gb332, 0, none⟩ = some (.int .i64 a0_0) := (blk_cell BK332.out 0).trans rfl
                      have hcz97_1 : wc.cell? ⟨gb332, 1, none⟩ = some (.int .i64 a0_1) := (blk_cell BK332.out 1).trans rfl
                      have hcz97_2 : wc.cell? ⟨gb332, 2, none⟩ = some (.int .i64 a0_2) := (blk_cell BK332.out 2).trans rfl
                      have hcz97_3 : wc.cell? ⟨gb332, 3, none⟩ = some (.int .i64 a0_3) := (blk_cell BK332.out 3).trans rfl
                      have hfz97_0 := blk_frozen BK332.out 0
                      have hfz97_1 := blk_frozen BK332.out 1
                      have hfz97_2 := blk_frozen BK332.out 2
                      have hfz97_3 := blk_frozen BK332.out 3
                      have hnb98 := NB336_333.out
                      have hnc98 := NB333_336.out
                      have hcz99_0 : wc.cell? ⟨gb336, 0, none⟩ = some (.int .i64 x337000_22) := (blk_cell BK336.out 0).trans rfl
                      have hcz99_1 : wc.cell? ⟨gb336, 1, none⟩ = some (.int .i64 x337001_22) := (blk_cell BK336.out 1).trans rfl
                      have hcz99_2 : wc.cell? ⟨gb336, 2, none⟩ = some (.int .i64 x337002_22) := (blk_cell BK336.out 2).trans rfl
                      have hcz99_3 : wc.cell? ⟨gb336, 3, none⟩ = some (.int .i64 x337003_22) := (blk_cell BK336.out 3).trans rfl
                      have hfz99_0 := blk_frozen BK336.out 0
                      have hfz99_1 := blk_frozen BK336.out 1
                      have hfz99_2 := blk_frozen BK336.out 2
                      have hfz99_3 := blk_frozen BK336.out 3
                      go_wp2_with (first | ((with_reducible refine gate_callee (f := 13) rfl ?_); refine goesL_ (some 91) rfl rfl Try.func13 (by kernel_rfl) rfl #[.agg #[.int .i64 a0_0, .int .i64 a0_1, .int .i64 a0_2, .int .i64 a0_3], .agg #[.int .i64 x337000_22, .int .i64 x337001_22, .int .i64 x337002_22, .int .i64 x337003_22]] rfl (by (try simp only [List.map_toArray, List.map_cons, List.map_nil]); first | done | rfl | (simp only [List.length_drop, List.length_take]; rfl)) ?_; (with_reducible refine (drive_Valid.calls kj22 a0_0 a0_1 a0_2 a0_3 x337000_22 x337001_22 x337002_22 x337003_22 true _ A76.out).mono ?_); rintro e w100 ⟨rfl, hb⟩; refine ⟨_, rfl, ?_⟩; have n0_ := Aside0.mk (bb_ BK332.out hb); have n1_ := Aside0.mk (bb_ BK333.out hb); have n2_ := Aside0.mk (bb_ BK336.out hb); have n3_ := Aside0.mk (below_step (by repeat (first | (with_reducible first | exact HB.out | apply below_alloc | apply pw_below_drewN | apply below_drew1 | refine below_set ?_ GE332.out | refine below_set ?_ GE333.out | refine below_set ?_ GE336.out) | exact HB.out)) hb); clear BK332; clear BK333; clear BK336; clear HB; have BK332 := n0_; have BK333 := n1_; have BK336 := n2_; have HB := n3_; clear n0_ n1_ n2_ n3_; (try clear hb); (try clear hb2); (try clear hk); (try clear hi); have p366 : 0 ≤ (x7_2 : Int) := of_decide_eq_true (by first | (with_reducible assumption) | assumption); have q366 : x7_2 < (l2.length : Int) := of_decide_eq_true (by first | (with_reducible assumption) | assumption); obtain ⟨ad366, e366, hx366_0, hx366_1⟩ := at_T42 HR2.out x7_2 p366 q366; obtain rfl : ad337 = ad366 := (by injection e366); replace hx366_0 := (HB.out.cell (World.block_lt_of_cell? w _ hx366_0)).trans hx366_0; replace hx366_1 := (HB.out.cell (World.block_lt_of_cell? w _ hx366_1)).trans hx366_1; replace p366 := eq_true p366; replace q366 := eq_true q366; have p367 : 0 ≤ (x7_2 : Int) := of_decide_eq_true (by first | (with_reducible assumption) | assumption); have q367 : x7_2 < (l2.length : Int) := of_decide_eq_true (by first | (with_reducible assumption) | assumption); obtain ⟨ad367, e367, hx367_0, hx367_1⟩ := at_T42 HR2.out x7_2 p367 q367; obtain rfl : ad337 = ad367 := (by injection e367); replace hx367_0 := (HB.out.cell (World.block_lt_of_cell? w _ hx367_0)).trans hx367_0; replace hx367_1 := (HB.out.cell (World.block_lt_of_cell? w _ hx367_1)).trans hx367_1; replace p367 := eq_true p367; replace q367 := eq_true q367; have hcz101_0 : w100.cell? ⟨gb336, 0, none⟩ = some (.int .i64 x337000_22) := (blk_cell BK336.out 0).trans rfl; have hcz101_1 : w100.cell? ⟨gb336, 1, none⟩ = some (.int .i64 x337001_22) := (blk_cell BK336.out 1).trans rfl; have hcz101_2 : w100.cell? ⟨gb336, 2, none⟩ = some (.int .i64 x337002_22) := (blk_cell BK336.out 2).trans rfl; have hcz101_3 : w100.cell? ⟨gb336, 3, none⟩ = some (.int .i64 x337003_22) := (blk_cell BK336.out 3).trans rfl; have hfz101_0 := blk_frozen BK336.out 0; have hfz101_1 := blk_frozen BK336.out 1; have hfz101_2 := blk_frozen BK336.out 2; have hfz101_3 := blk_frozen BK336.out 3; have hcz102_0 : w100.cell? ⟨gb333, 0, none⟩ = some (.int .i64 x334000_2) := (blk_cell BK333.out 0).trans rfl; have hcz102_1 : w100.cell? ⟨gb333, 1, none⟩ = some (.int .i64 x334001_2) := (blk_cell BK333.out 1).trans rfl; have hcz102_2 : w100.cell? ⟨gb333, 2, none⟩ = some (.int .i64 x334002_2) := (blk_cell BK333.out 2).trans rfl; have hcz102_3 : w100.cell? ⟨gb333, 3, none⟩ = some (.int .i64 x334003_2) := (blk_cell BK333.out 3).trans rfl; have hfz102_0 := blk_frozen BK333.out 0; have hfz102_1 := blk_frozen BK333.out 1; have hfz102_2 := blk_frozen BK333.out 2; have hfz102_3 := blk_frozen BK333.out 3; have p368 : 0 ≤ (x7_2 : Int) := of_decide_eq_true (by first | (with_reducible assumption) | assumption); have q368 : x7_2 < (l2.length : Int) := of_decide_eq_true (by first | (with_reducible assumption) | assumption); obtain ⟨ad368, e368, hx368_0, hx368_1⟩ := at_T42 HR2.out x7_2 p368 q368; obtain rfl : ad337 = ad368 := (by injection e368); replace hx368_0 := (HB.out.cell (World.block_lt_of_cell? w _ hx368_0)).trans hx368_0; replace hx368_1 := (HB.out.cell (World.block_lt_of_cell? w _ hx368_1)).trans hx368_1; replace p368 := eq_true p368; replace q368 := eq_true q368))
                      go_roundg kj22
                      case measure => have := HJ5.out; have := HK2.out; have := HJ22.out; omega
                      case rel => exact ⟨(wrap64 (x7_2 + 1)), (x337000_22), (x337001_22), (x337002_22), (x337003_22), (by first | rfl | (simp; done) | (simp [*]; done)), H', ⟨by have := HJ5.out; have := HK2.out; have := HJ22.out; omega⟩, ⟨by (with_reducible repeat (first | refine blk_drewN ?_ _ | refine blk_drew ?_ | refine blk_alloc ?_ _)); refine blk_far ?_ NB332_333.out _; (with_reducible repeat (first | refine blk_drewN ?_ _ | refine blk_drew ?_ | refine blk_alloc ?_ _)); refine blk_far ?_ NB332_333.out _; (with_reducible repeat (first | refine blk_drewN ?_ _ | refine blk_drew ?_ | refine blk_alloc ?_ _)); refine blk_far ?_ NB332_333.out _; (with_reducible repeat (first | refine blk_drewN ?_ _ | refine blk_drew ?_ | refine blk_alloc ?_ _)); refine blk_far ?_ NB332_333.out _; (with_reducible repeat (first | refine blk_drewN ?_ _ | refine blk_drew ?_ | refine blk_alloc ?_ _)); exact BK332.out⟩, ⟨by (with_reducible repeat (first | refine blk_drewN ?_ _ | refine blk_drew ?_ | refine blk_alloc ?_ _)); refine blk_put (cs := #[.int .i64 x337000_22, .int .i64 x337001_22, .int .i64 x337002_22, .int .i64 x334003_2]) ?_ 3 _ rfl; (with_reducible repeat (first | refine blk_drewN ?_ _ | refine blk_drew ?_ | refine blk_alloc ?_ _)); refine blk_put (cs := #[.int .i64 x337000_22, .int .i64 x337001_22, .int .i64 x334002_2, .int .i64 x334003_2]) ?_ 2 _ rfl; (with_reducible repeat (first | refine blk_drewN ?_ _ | refine blk_drew ?_ | refine blk_alloc ?_ _)); refine blk_put (cs := #[.int .i64 x337000_22, .int .i64 x334001_2, .int .i64 x334002_2, .int .i64 x334003_2]) ?_ 1 _ rfl; (with_reducible repeat (first | refine blk_drewN ?_ _ | refine blk_drew ?_ | refine blk_alloc ?_ _)); refine blk_put (cs := #[.int .i64 x334000_2, .int .i64 x334001_2, .int .i64 x334002_2, .int .i64 x334003_2]) ?_ 0 _ rfl; (with_reducible repeat (first | refine blk_drewN ?_ _ | refine blk_drew ?_ | refine blk_alloc ?_ _)); exact BK333.out⟩, ⟨by repeat (first | (with_reducible first | exact HB.out | apply below_alloc | apply pw_below_drewN | apply below_drew1 | refine below_set ?_ GE332.out | refine below_set ?_ GE333.out | refine below_set ?_ GE336.out) | exact HB.out)⟩⟩
                     ·rw [if_neg c94] at H
                      exact absurd H (by simp)
                   ·rw [if_neg c84] at H
                    have c84b0 : (x334000_2 == 3) = false := beq_eq_false_iff_ne.mpr c84
                    have c84b1 : (x334000_2 != 3) = true := bne_iff_ne.mpr c84
                    have H' := Aside0.mk H
                    clear H
                    have hnb103 := NB332_333.out
                    have hnc103 := NB333_332.out
                    have hnb104 := NB332_336.out
                    have hnc104 := NB336_332.out
                    have hcz105_0 : wc.cell? ⟨gb332, 0, none⟩ = some (.int .i64 a0_0) := (blk_cell BK332.out 0).trans rfl
                    have hcz105_1 : wc.cell? ⟨gb332, 1, none⟩ = some (.int .i64 a0_1) := (blk_cell BK332.out 1).trans rfl
                    have hcz105_2 : wc.cell? ⟨gb332, 2, none⟩ = some (.int .i64 a0_2) := (blk_cell BK332.out 2).trans rfl
                    have hcz105_3 : wc.cell? ⟨gb332, 3, none⟩ = some (.int .i64 a0_3) := (blk_cell BK332.out 3).trans rfl
                    have hfz105_0 := blk_frozen BK332.out 0
                    have hfz105_1 := blk_frozen BK332.out 1
                    have hfz105_2 := blk_frozen BK332.out 2
                    have hfz105_3 := blk_frozen BK332.out 3
                    have hnb106 := NB336_333.out
                    have hnc106 := NB333_336.out
                    have hcz107_0 : wc.cell? ⟨gb336, 0, none⟩ = some (.int .i64 x337000_22) := (blk_cell BK336.out 0).trans rfl
                    have hcz107_1 : wc.cell? ⟨gb336, 1, none⟩ = some (.int .i64 x337001_22) := (blk_cell BK336.out 1).trans rfl
                    have hcz107_2 : wc.cell? ⟨gb336, 2, none⟩ = some (.int .i64 x337002_22) := (blk_cell BK336.out 2).trans rfl
                    have hcz107_3 : wc.cell? ⟨gb336, 3, none⟩ = some (.int .i64 x337003_22) := (blk_cell BK336.out 3).trans rfl
                    have hfz107_0 := blk_frozen BK336.out 0
                    have hfz107_1 := blk_frozen BK336.out 1
                    have hfz107_2 := blk_frozen BK336.out 2
                    have hfz107_3 := blk_frozen BK336.out 3
                    go_wp2_with (first | ((with_reducible refine gate_callee (f := 13) rfl ?_); refine goesL_ (some 91) rfl rfl Try.func13 (by kernel_rfl) rfl #[.agg #[.int .i64 a0_0, .int .i64 a0_1, .int .i64 a0_2, .int .i64 a0_3], .agg #[.int .i64 x337000_22, .int .i64 x337001_22, .int .i64 x337002_22, .int .i64 x337003_22]] rfl (by (try simp only [List.map_toArray, List.map_cons, List.map_nil]); first | done | rfl | (simp only [List.length_drop, List.length_take]; rfl)) ?_; (with_reducible refine (drive_Valid.calls kj22 a0_0 a0_1 a0_2 a0_3 x337000_22 x337001_22 x337002_22 x337003_22 true _ A76.out).mono ?_); rintro e w108 ⟨rfl, hb⟩; refine ⟨_, rfl, ?_⟩; have n0_ := Aside0.mk (bb_ BK332.out hb); have n1_ := Aside0.mk (bb_ BK333.out hb); have n2_ := Aside0.mk (bb_ BK336.out hb); have n3_ := Aside0.mk (below_step (by repeat (first | (with_reducible first | exact HB.out | apply below_alloc | apply pw_below_drewN | apply below_drew1 | refine below_set ?_ GE332.out | refine below_set ?_ GE333.out | refine below_set ?_ GE336.out) | exact HB.out)) hb); clear BK332; clear BK333; clear BK336; clear HB; have BK332 := n0_; have BK333 := n1_; have BK336 := n2_; have HB := n3_; clear n0_ n1_ n2_ n3_; (try clear hb); (try clear hb2); (try clear hk); (try clear hi); have p366 : 0 ≤ (x7_2 : Int) := of_decide_eq_true (by first | (with_reducible assumption) | assumption); have q366 : x7_2 < (l2.length : Int) := of_decide_eq_true (by first | (with_reducible assumption) | assumption); obtain ⟨ad366, e366, hx366_0, hx366_1⟩ := at_T42 HR2.out x7_2 p366 q366; obtain rfl : ad337 = ad366 := (by injection e366); replace hx366_0 := (HB.out.cell (World.block_lt_of_cell? w _ hx366_0)).trans hx366_0; replace hx366_1 := (HB.out.cell (World.block_lt_of_cell? w _ hx366_1)).trans hx366_1; replace p366 := eq_true p366; replace q366 := eq_true q366; have p367 : 0 ≤ (x7_2 : Int) := of_decide_eq_true (by first | (with_reducible assumption) | assumption); have q367 : x7_2 < (l2.length : Int) := of_decide_eq_true (by first | (with_reducible assumption) | assumption); obtain ⟨ad367, e367, hx367_0, hx367_1⟩ := at_T42 HR2.out x7_2 p367 q367; obtain rfl : ad337 = ad367 := (by injection e367); replace hx367_0 := (HB.out.cell (World.block_lt_of_cell? w _ hx367_0)).trans hx367_0; replace hx367_1 := (HB.out.cell (World.block_lt_of_cell? w _ hx367_1)).trans hx367_1; replace p367 := eq_true p367; replace q367 := eq_true q367; have hcz109_0 : w108.cell? ⟨gb336, 0, none⟩ = some (.int .i64 x337000_22) := (blk_cell BK336.out 0).trans rfl; have hcz109_1 : w108.cell? ⟨gb336, 1, none⟩ = some (.int .i64 x337001_22) := (blk_cell BK336.out 1).trans rfl; have hcz109_2 : w108.cell? ⟨gb336, 2, none⟩ = some (.int .i64 x337002_22) := (blk_cell BK336.out 2).trans rfl; have hcz109_3 : w108.cell? ⟨gb336, 3, none⟩ = some (.int .i64 x337003_22) := (blk_cell BK336.out 3).trans rfl; have hfz109_0 := blk_frozen BK336.out 0; have hfz109_1 := blk_frozen BK336.out 1; have hfz109_2 := blk_frozen BK336.out 2; have hfz109_3 := blk_frozen BK336.out 3; have hcz110_0 : w108.cell? ⟨gb333, 0, none⟩ = some (.int .i64 x334000_2) := (blk_cell BK333.out 0).trans rfl; have hcz110_1 : w108.cell? ⟨gb333, 1, none⟩ = some (.int .i64 x334001_2) := (blk_cell BK333.out 1).trans rfl; have hcz110_2 : w108.cell? ⟨gb333, 2, none⟩ = some (.int .i64 x334002_2) := (blk_cell BK333.out 2).trans rfl; have hcz110_3 : w108.cell? ⟨gb333, 3, none⟩ = some (.int .i64 x334003_2) := (blk_cell BK333.out 3).trans rfl; have hfz110_0 := blk_frozen BK333.out 0; have hfz110_1 := blk_frozen BK333.out 1; have hfz110_2 := blk_frozen BK333.out 2; have hfz110_3 := blk_frozen BK333.out 3))
                    go_roundg kj22
                    case measure => have := HJ5.out; have := HK2.out; have := HJ22.out; omega
                    case rel => exact ⟨(wrap64 (x7_2 + 1)), (x337000_22), (x337001_22), (x337002_22), (x337003_22), (by first | rfl | (simp; done) | (simp [*]; done)), H', ⟨by have := HJ5.out; have := HK2.out; have := HJ22.out; omega⟩, ⟨by (with_reducible repeat (first | refine blk_drewN ?_ _ | refine blk_drew ?_ | refine blk_alloc ?_ _)); refine blk_far ?_ NB332_333.out _; (with_reducible repeat (first | refine blk_drewN ?_ _ | refine blk_drew ?_ | refine blk_alloc ?_ _)); refine blk_far ?_ NB332_333.out _; (with_reducible repeat (first | refine blk_drewN ?_ _ | refine blk_drew ?_ | refine blk_alloc ?_ _)); refine blk_far ?_ NB332_333.out _; (with_reducible repeat (first | refine blk_drewN ?_ _ | refine blk_drew ?_ | refine blk_alloc ?_ _)); refine blk_far ?_ NB332_333.out _; (with_reducible repeat (first | refine blk_drewN ?_ _ | refine blk_drew ?_ | refine blk_alloc ?_ _)); exact BK332.out⟩, ⟨by (with_reducible repeat (first | refine blk_drewN ?_ _ | refine blk_drew ?_ | refine blk_alloc ?_ _)); refine blk_put (cs := #[.int .i64 x337000_22, .int .i64 x337001_22, .int .i64 x337002_22, .int .i64 x334003_2]) ?_ 3 _ rfl; (with_reducible repeat (first | refine blk_drewN ?_ _ | refine blk_drew ?_ | refine blk_alloc ?_ _)); refine blk_put (cs := #[.int .i64 x337000_22, .int .i64 x337001_22, .int .i64 x334002_2, .int .i64 x334003_2]) ?_ 2 _ rfl; (with_reducible repeat (first | refine blk_drewN ?_ _ | refine blk_drew ?_ | refine blk_alloc ?_ _)); refine blk_put (cs := #[.int .i64 x337000_22, .int .i64 x334001_2, .int .i64 x334002_2, .int .i64 x334003_2]) ?_ 1 _ rfl; (with_reducible repeat (first | refine blk_drewN ?_ _ | refine blk_drew ?_ | refine blk_alloc ?_ _)); refine blk_put (cs := #[.int .i64 x334000_2, .int .i64 x334001_2, .int .i64 x334002_2, .int .i64 x334003_2]) ?_ 0 _ rfl; (with_reducible repeat (first | refine blk_drewN ?_ _ | refine blk_drew ?_ | refine blk_alloc ?_ _)); exact BK333.out⟩, ⟨by repeat (first | (with_reducible first | exact HB.out | apply below_alloc | apply pw_below_drewN | apply below_drew1 | refine below_set ?_ GE332.out | refine below_set ?_ GE333.out | refine below_set ?_ GE336.out) | exact HB.out)⟩⟩
                  ·rw [if_neg c83] at H
                   exact absurd H (by simp)
                 ·rw [if_neg c82] at H
                  exact absurd H (by simp)
                ·rw [if_neg c81] at H
                 have c81b0 : decide (((rd_T42 l2 x7_2).f0) ≤ 3) = false := decide_eq_false c81
                 clear c81
                 by_cases c111 : x334000_2 = 3
                 ·rw [if_pos c111] at H
                  have c111b0 : (x334000_2 == 3) = true := beq_iff_eq.mpr c111
                  have c111b1 : (x334000_2 != 3) = false := bne_eq_false_iff_eq.mpr c111
                  clear c111
                  by_cases c112 : ((rd_T42 l2 x7_2).f0) = 3
                  ·rw [if_pos c112] at H
                   have c112b0 : (((rd_T42 l2 x7_2).f0) == 3) = true := beq_iff_eq.mpr c112
                   have c112b1 : (((rd_T42 l2 x7_2).f0) != 3) = false := bne_eq_false_iff_eq.mpr c112
                   clear c112
                   have H' := Aside0.mk H
                   clear H
                   have hnb113 := NB332_333.out
                   have hnc113 := NB333_332.out
                   have hnb114 := NB332_336.out
                   have hnc114 := NB336_332.out
                   have hcz115_0 : wc.cell? ⟨gb332, 0, none⟩ = some (.int .i64 a0_0) := (blk_cell BK332.out 0).trans rfl
                   have hcz115_1 : wc.cell? ⟨gb332, 1, none⟩ = some (.int .i64 a0_1) := (blk_cell BK332.out 1).trans rfl
                   have hcz115_2 : wc.cell? ⟨gb332, 2, none⟩ = some (.int .i64 a0_2) := (blk_cell BK332.out 2).trans rfl
                   have hcz115_3 : wc.cell? ⟨gb332, 3, none⟩ = some (.int .i64 a0_3) := (blk_cell BK332.out 3).trans rfl
                   have hfz115_0 := blk_frozen BK332.out 0
                   have hfz115_1 := blk_frozen BK332.out 1
                   have hfz115_2 := blk_frozen BK332.out 2
                   have hfz115_3 := blk_frozen BK332.out 3
                   have hnb116 := NB336_333.out
                   have hnc116 := NB333_336.out
                   have hcz117_0 : wc.cell? ⟨gb336, 0, none⟩ = some (.int .i64 x337000_22) := (blk_cell BK336.out 0).trans rfl
                   have hcz117_1 : wc.cell? ⟨gb336, 1, none⟩ = some (.int .i64 x337001_22) := (blk_cell BK336.out 1).trans rfl
                   have hcz117_2 : wc.cell? ⟨gb336, 2, none⟩ = some (.int .i64 x337002_22) := (blk_cell BK336.out 2).trans rfl
                   have hcz117_3 : wc.cell? ⟨gb336, 3, none⟩ = some (.int .i64 x337003_22) := (blk_cell BK336.out 3).trans rfl
                   have hfz117_0 := blk_frozen BK336.out 0
                   have hfz117_1 := blk_frozen BK336.out 1
                   have hfz117_2 := blk_frozen BK336.out 2
                   have hfz117_3 := blk_frozen BK336.out 3
                   go_wp2_with (first | ((with_reducible refine gate_callee (f := 13) rfl ?_); refine goesL_ (some 91) rfl rfl Try.func13 (by kernel_rfl) rfl #[.agg #[.int .i64 a0_0, .int .i64 a0_1, .int .i64 a0_2, .int .i64 a0_3], .agg #[.int .i64 x337000_22, .int .i64 x337001_22, .int .i64 x337002_22, .int .i64 x337003_22]] rfl (by (try simp only [List.map_toArray, List.map_cons, List.map_nil]); first | done | rfl | (simp only [List.length_drop, List.length_take]; rfl)) ?_; (with_reducible refine (drive_Valid.calls kj22 a0_0 a0_1 a0_2 a0_3 x337000_22 x337001_22 x337002_22 x337003_22 true _ A76.out).mono ?_); rintro e w118 ⟨rfl, hb⟩; refine ⟨_, rfl, ?_⟩; have n0_ := Aside0.mk (bb_ BK332.out hb); have n1_ := Aside0.mk (bb_ BK333.out hb); have n2_ := Aside0.mk (bb_ BK336.out hb); have n3_ := Aside0.mk (below_step (by repeat (first | (with_reducible first | exact HB.out | apply below_alloc | apply pw_below_drewN | apply below_drew1 | refine below_set ?_ GE332.out | refine below_set ?_ GE333.out | refine below_set ?_ GE336.out) | exact HB.out)) hb); clear BK332; clear BK333; clear BK336; clear HB; have BK332 := n0_; have BK333 := n1_; have BK336 := n2_; have HB := n3_; clear n0_ n1_ n2_ n3_; (try clear hb); (try clear hb2); (try clear hk); (try clear hi); have p366 : 0 ≤ (x7_2 : Int) := of_decide_eq_true (by first | (with_reducible assumption) | assumption); have q366 : x7_2 < (l2.length : Int) := of_decide_eq_true (by first | (with_reducible assumption) | assumption); obtain ⟨ad366, e366, hx366_0, hx366_1⟩ := at_T42 HR2.out x7_2 p366 q366; obtain rfl : ad337 = ad366 := (by injection e366); replace hx366_0 := (HB.out.cell (World.block_lt_of_cell? w _ hx366_0)).trans hx366_0; replace hx366_1 := (HB.out.cell (World.block_lt_of_cell? w _ hx366_1)).trans hx366_1; replace p366 := eq_true p366; replace q366 := eq_true q366; have p367 : 0 ≤ (x7_2 : Int) := of_decide_eq_true (by first | (with_reducible assumption) | assumption); have q367 : x7_2 < (l2.length : Int) := of_decide_eq_true (by first | (with_reducible assumption) | assumption); obtain ⟨ad367, e367, hx367_0, hx367_1⟩ := at_T42 HR2.out x7_2 p367 q367; obtain rfl : ad337 = ad367 := (by injection e367); replace hx367_0 := (HB.out.cell (World.block_lt_of_cell? w _ hx367_0)).trans hx367_0; replace hx367_1 := (HB.out.cell (World.block_lt_of_cell? w _ hx367_1)).trans hx367_1; replace p367 := eq_true p367; replace q367 := eq_true q367; have hcz119_0 : w118.cell? ⟨gb333, 0, none⟩ = some (.int .i64 x334000_2) := (blk_cell BK333.out 0).trans rfl; have hcz119_1 : w118.cell? ⟨gb333, 1, none⟩ = some (.int .i64 x334001_2) := (blk_cell BK333.out 1).trans rfl; have hcz119_2 : w118.cell? ⟨gb333, 2, none⟩ = some (.int .i64 x334002_2) := (blk_cell BK333.out 2).trans rfl; have hcz119_3 : w118.cell? ⟨gb333, 3, none⟩ = some (.int .i64 x334003_2) := (blk_cell BK333.out 3).trans rfl; have hfz119_0 := blk_frozen BK333.out 0; have hfz119_1 := blk_frozen BK333.out 1; have hfz119_2 := blk_frozen BK333.out 2; have hfz119_3 := blk_frozen BK333.out 3; have p369 : 0 ≤ (x7_2 : Int) := of_decide_eq_true (by first | (with_reducible assumption) | assumption); have q369 : x7_2 < (l2.length : Int) := of_decide_eq_true (by first | (with_reducible assumption) | assumption); obtain ⟨ad369, e369, hx369_0, hx369_1⟩ := at_T42 HR2.out x7_2 p369 q369; obtain rfl : ad337 = ad369 := (by injection e369); replace hx369_0 := (HB.out.cell (World.block_lt_of_cell? w _ hx369_0)).trans hx369_0; replace hx369_1 := (HB.out.cell (World.block_lt_of_cell? w _ hx369_1)).trans hx369_1; replace p369 := eq_true p369; replace q369 := eq_true q369; have hcz120_0 : w118.cell? ⟨gb336, 0, none⟩ = some (.int .i64 x337000_22) := (blk_cell BK336.out 0).trans rfl; have hcz120_1 : w118.cell? ⟨gb336, 1, none⟩ = some (.int .i64 x337001_22) := (blk_cell BK336.out 1).trans rfl; have hcz120_2 : w118.cell? ⟨gb336, 2, none⟩ = some (.int .i64 x337002_22) := (blk_cell BK336.out 2).trans rfl; have hcz120_3 : w118.cell? ⟨gb336, 3, none⟩ = some (.int .i64 x337003_22) := (blk_cell BK336.out 3).trans rfl; have hfz120_0 := blk_frozen BK336.out 0; have hfz120_1 := blk_frozen BK336.out 1; have hfz120_2 := blk_frozen BK336.out 2; have hfz120_3 := blk_frozen BK336.out 3))
                   go_roundg kj22
                   case measure => have := HJ5.out; have := HK2.out; have := HJ22.out; omega
                   case rel => exact ⟨(wrap64 (x7_2 + 1)), (x337000_22), (x337001_22), (x337002_22), (x337003_22), (by first | rfl | (simp; done) | (simp [*]; done)), H', ⟨by have := HJ5.out; have := HK2.out; have := HJ22.out; omega⟩, ⟨by (with_reducible repeat (first | refine blk_drewN ?_ _ | refine blk_drew ?_ | refine blk_alloc ?_ _)); refine blk_far ?_ NB332_333.out _; (with_reducible repeat (first | refine blk_drewN ?_ _ | refine blk_drew ?_ | refine blk_alloc ?_ _)); refine blk_far ?_ NB332_333.out _; (with_reducible repeat (first | refine blk_drewN ?_ _ | refine blk_drew ?_ | refine blk_alloc ?_ _)); refine blk_far ?_ NB332_333.out _; (with_reducible repeat (first | refine blk_drewN ?_ _ | refine blk_drew ?_ | refine blk_alloc ?_ _)); refine blk_far ?_ NB332_333.out _; (with_reducible repeat (first | refine blk_drewN ?_ _ | refine blk_drew ?_ | refine blk_alloc ?_ _)); exact BK332.out⟩, ⟨by (with_reducible repeat (first | refine blk_drewN ?_ _ | refine blk_drew ?_ | refine blk_alloc ?_ _)); refine blk_put (cs := #[.int .i64 x337000_22, .int .i64 x337001_22, .int .i64 x337002_22, .int .i64 x334003_2]) ?_ 3 _ rfl; (with_reducible repeat (first | refine blk_drewN ?_ _ | refine blk_drew ?_ | refine blk_alloc ?_ _)); refine blk_put (cs := #[.int .i64 x337000_22, .int .i64 x337001_22, .int .i64 x334002_2, .int .i64 x334003_2]) ?_ 2 _ rfl; (with_reducible repeat (first | refine blk_drewN ?_ _ | refine blk_drew ?_ | refine blk_alloc ?_ _)); refine blk_put (cs := #[.int .i64 x337000_22, .int .i64 x334001_2, .int .i64 x334002_2, .int .i64 x334003_2]) ?_ 1 _ rfl; (with_reducible repeat (first | refine blk_drewN ?_ _ | refine blk_drew ?_ | refine blk_alloc ?_ _)); refine blk_put (cs := #[.int .i64 x334000_2, .int .i64 x334001_2, .int .i64 x334002_2, .int .i64 x334003_2]) ?_ 0 _ rfl; (with_reducible repeat (first | refine blk_drewN ?_ _ | refine blk_drew ?_ | refine blk_alloc ?_ _)); exact BK333.out⟩, ⟨by repeat (first | (with_reducible first | exact HB.out | apply below_alloc | apply pw_below_drewN | apply below_drew1 | refine below_set ?_ GE332.out | refine below_set ?_ GE333.out | refine below_set ?_ GE336.out) | exact HB.out)⟩⟩
                  ·rw [if_neg c112] at H
                   have c112b0 : (((rd_T42 l2 x7_2).f0) == 3) = false := beq_eq_false_iff_ne.mpr c112
                   have c112b1 : (((rd_T42 l2 x7_2).f0) != 3) = true := bne_iff_ne.mpr c112
                   by_cases c121 : x337000_22 = 3
                   ·rw [if_pos c121] at H
                    have c121b0 : (x337000_22 == 3) = true := beq_iff_eq.mpr c121
                    have c121b1 : (x337000_22 != 3) = false := bne_eq_false_iff_eq.mpr c121
                    clear c121
                    have H' := Aside0.mk H
                    clear H
                    have hnb122 := NB332_333.out
                    have hnc122 := NB333_332.out
                    have hnb123 := NB332_336.out
                    have hnc123 := NB336_332.out
                    have hcz124_0 : wc.cell? ⟨gb332, 0, none⟩ = some (.int .i64 a0_0) := (blk_cell BK332.out 0).trans rfl
                    have hcz124_1 : wc.cell? ⟨gb332, 1, none⟩ = some (.int .i64 a0_1) := (blk_cell BK332.out 1).trans rfl
                    have hcz124_2 : wc.cell? ⟨gb332, 2, none⟩ = some (.int .i64 a0_2) := (blk_cell BK332.out 2).trans rfl
                    have hcz124_3 : wc.cell? ⟨gb332, 3, none⟩ = some (.int .i64 a0_3) := (blk_cell BK332.out 3).trans rfl
                    have hfz124_0 := blk_frozen BK332.out 0
                    have hfz124_1 := blk_frozen BK332.out 1
                    have hfz124_2 := blk_frozen BK332.out 2
                    have hfz124_3 := blk_frozen BK332.out 3
                    have hnb125 := NB336_333.out
                    have hnc125 := NB333_336.out
                    have hcz126_0 : wc.cell? ⟨gb336, 0, none⟩ = some (.int .i64 x337000_22) := (blk_cell BK336.out 0).trans rfl
                    have hcz126_1 : wc.cell? ⟨gb336, 1, none⟩ = some (.int .i64 x337001_22) := (blk_cell BK336.out 1).trans rfl
                    have hcz126_2 : wc.cell? ⟨gb336, 2, none⟩ = some (.int .i64 x337002_22) := (blk_cell BK336.out 2).trans rfl
                    have hcz126_3 : wc.cell? ⟨gb336, 3, none⟩ = some (.int .i64 x337003_22) := (blk_cell BK336.out 3).trans rfl
                    have hfz126_0 := blk_frozen BK336.out 0
                    have hfz126_1 := blk_frozen BK336.out 1
                    have hfz126_2 := blk_frozen BK336.out 2
                    have hfz126_3 := blk_frozen BK336.out 3
                    go_wp2_with (first | ((with_reducible refine gate_callee (f := 13) rfl ?_); refine goesL_ (some 91) rfl rfl Try.func13 (by kernel_rfl) rfl #[.agg #[.int .i64 a0_0, .int .i64 a0_1, .int .i64 a0_2, .int .i64 a0_3], .agg #[.int .i64 x337000_22, .int .i64 x337001_22, .int .i64 x337002_22, .int .i64 x337003_22]] rfl (by (try simp only [List.map_toArray, List.map_cons, List.map_nil]); first | done | rfl | (simp only [List.length_drop, List.length_take]; rfl)) ?_; (with_reducible refine (drive_Valid.calls kj22 a0_0 a0_1 a0_2 a0_3 x337000_22 x337001_22 x337002_22 x337003_22 true _ A76.out).mono ?_); rintro e w127 ⟨rfl, hb⟩; refine ⟨_, rfl, ?_⟩; have n0_ := Aside0.mk (bb_ BK332.out hb); have n1_ := Aside0.mk (bb_ BK333.out hb); have n2_ := Aside0.mk (bb_ BK336.out hb); have n3_ := Aside0.mk (below_step (by repeat (first | (with_reducible first | exact HB.out | apply below_alloc | apply pw_below_drewN | apply below_drew1 | refine below_set ?_ GE332.out | refine below_set ?_ GE333.out | refine below_set ?_ GE336.out) | exact HB.out)) hb); clear BK332; clear BK333; clear BK336; clear HB; have BK332 := n0_; have BK333 := n1_; have BK336 := n2_; have HB := n3_; clear n0_ n1_ n2_ n3_; (try clear hb); (try clear hb2); (try clear hk); (try clear hi); have p366 : 0 ≤ (x7_2 : Int) := of_decide_eq_true (by first | (with_reducible assumption) | assumption); have q366 : x7_2 < (l2.length : Int) := of_decide_eq_true (by first | (with_reducible assumption) | assumption); obtain ⟨ad366, e366, hx366_0, hx366_1⟩ := at_T42 HR2.out x7_2 p366 q366; obtain rfl : ad337 = ad366 := (by injection e366); replace hx366_0 := (HB.out.cell (World.block_lt_of_cell? w _ hx366_0)).trans hx366_0; replace hx366_1 := (HB.out.cell (World.block_lt_of_cell? w _ hx366_1)).trans hx366_1; replace p366 := eq_true p366; replace q366 := eq_true q366; have p367 : 0 ≤ (x7_2 : Int) := of_decide_eq_true (by first | (with_reducible assumption) | assumption); have q367 : x7_2 < (l2.length : Int) := of_decide_eq_true (by first | (with_reducible assumption) | assumption); obtain ⟨ad367, e367, hx367_0, hx367_1⟩ := at_T42 HR2.out x7_2 p367 q367; obtain rfl : ad337 = ad367 := (by injection e367); replace hx367_0 := (HB.out.cell (World.block_lt_of_cell? w _ hx367_0)).trans hx367_0; replace hx367_1 := (HB.out.cell (World.block_lt_of_cell? w _ hx367_1)).trans hx367_1; replace p367 := eq_true p367; replace q367 := eq_true q367; have hcz128_0 : w127.cell? ⟨gb333, 0, none⟩ = some (.int .i64 x334000_2) := (blk_cell BK333.out 0).trans rfl; have hcz128_1 : w127.cell? ⟨gb333, 1, none⟩ = some (.int .i64 x334001_2) := (blk_cell BK333.out 1).trans rfl; have hcz128_2 : w127.cell? ⟨gb333, 2, none⟩ = some (.int .i64 x334002_2) := (blk_cell BK333.out 2).trans rfl; have hcz128_3 : w127.cell? ⟨gb333, 3, none⟩ = some (.int .i64 x334003_2) := (blk_cell BK333.out 3).trans rfl; have hfz128_0 := blk_frozen BK333.out 0; have hfz128_1 := blk_frozen BK333.out 1; have hfz128_2 := blk_frozen BK333.out 2; have hfz128_3 := blk_frozen BK333.out 3; have p369 : 0 ≤ (x7_2 : Int) := of_decide_eq_true (by first | (with_reducible assumption) | assumption); have q369 : x7_2 < (l2.length : Int) := of_decide_eq_true (by first | (with_reducible assumption) | assumption); obtain ⟨ad369, e369, hx369_0, hx369_1⟩ := at_T42 HR2.out x7_2 p369 q369; obtain rfl : ad337 = ad369 := (by injection e369); replace hx369_0 := (HB.out.cell (World.block_lt_of_cell? w _ hx369_0)).trans hx369_0; replace hx369_1 := (HB.out.cell (World.block_lt_of_cell? w _ hx369_1)).trans hx369_1; replace p369 := eq_true p369; replace q369 := eq_true q369; have hcz129_0 : w127.cell? ⟨gb336, 0, none⟩ = some (.int .i64 x337000_22) := (blk_cell BK336.out 0).trans rfl; have hcz129_1 : w127.cell? ⟨gb336, 1, none⟩ = some (.int .i64 x337001_22) := (blk_cell BK336.out 1).trans rfl; have hcz129_2 : w127.cell? ⟨gb336, 2, none⟩ = some (.int .i64 x337002_22) := (blk_cell BK336.out 2).trans rfl; have hcz129_3 : w127.cell? ⟨gb336, 3, none⟩ = some (.int .i64 x337003_22) := (blk_cell BK336.out 3).trans rfl; have hfz129_0 := blk_frozen BK336.out 0; have hfz129_1 := blk_frozen BK336.out 1; have hfz129_2 := blk_frozen BK336.out 2; have hfz129_3 := blk_frozen BK336.out 3))
                    go_roundg kj22
                    case measure => have := HJ5.out; have := HK2.out; have := HJ22.out; omega
                    case rel => exact ⟨(wrap64 (x7_2 + 1)), (x337000_22), (x337001_22), (x337002_22), (x337003_22), (by first | rfl | (simp; done) | (simp [*]; done)), H', ⟨by have := HJ5.out; have := HK2.out; have := HJ22.out; omega⟩, ⟨by (with_reducible repeat (first | refine blk_drewN ?_ _ | refine blk_drew ?_ | refine blk_alloc ?_ _)); refine blk_far ?_ NB332_333.out _; (with_reducible repeat (first | refine blk_drewN ?_ _ | refine blk_drew ?_ | refine blk_alloc ?_ _)); refine blk_far ?_ NB332_333.out _; (with_reducible repeat (first | refine blk_drewN ?_ _ | refine blk_drew ?_ | refine blk_alloc ?_ _)); refine blk_far ?_ NB332_333.out _; (with_reducible repeat (first | refine blk_drewN ?_ _ | refine blk_drew ?_ | refine blk_alloc ?_ _)); refine blk_far ?_ NB332_333.out _; (with_reducible repeat (first | refine blk_drewN ?_ _ | refine blk_drew ?_ | refine blk_alloc ?_ _)); exact BK332.out⟩, ⟨by (with_reducible repeat (first | refine blk_drewN ?_ _ | refine blk_drew ?_ | refine blk_alloc ?_ _)); refine blk_put (cs := #[.int .i64 x337000_22, .int .i64 x337001_22, .int .i64 x337002_22, .int .i64 x334003_2]) ?_ 3 _ rfl; (with_reducible repeat (first | refine blk_drewN ?_ _ | refine blk_drew ?_ | refine blk_alloc ?_ _)); refine blk_put (cs := #[.int .i64 x337000_22, .int .i64 x337001_22, .int .i64 x334002_2, .int .i64 x334003_2]) ?_ 2 _ rfl; (with_reducible repeat (first | refine blk_drewN ?_ _ | refine blk_drew ?_ | refine blk_alloc ?_ _)); refine blk_put (cs := #[.int .i64 x337000_22, .int .i64 x334001_2, .int .i64 x334002_2, .int .i64 x334003_2]) ?_ 1 _ rfl; (with_reducible repeat (first | refine blk_drewN ?_ _ | refine blk_drew ?_ | refine blk_alloc ?_ _)); refine blk_put (cs := #[.int .i64 x334000_2, .int .i64 x334001_2, .int .i64 x334002_2, .int .i64 x334003_2]) ?_ 0 _ rfl; (with_reducible repeat (first | refine blk_drewN ?_ _ | refine blk_drew ?_ | refine blk_alloc ?_ _)); exact BK333.out⟩, ⟨by repeat (first | (with_reducible first | exact HB.out | apply below_alloc | apply pw_below_drewN | apply below_drew1 | refine below_set ?_ GE332.out | refine below_set ?_ GE333.out | refine below_set ?_ GE336.out) | exact HB.out)⟩⟩
                   ·rw [if_neg c121] at H
                    exact absurd H (by simp)
                 ·rw [if_neg c111] at H
                  have c111b0 : (x334000_2 == 3) = false := beq_eq_false_iff_ne.mpr c111
                  have c111b1 : (x334000_2 != 3) = true := bne_iff_ne.mpr c111
                  have H' := Aside0.mk H
                  clear H
                  have hnb130 := NB332_333.out
                  have hnc130 := NB333_332.out
                  have hnb131 := NB332_336.out
                  have hnc131 := NB336_332.out
                  have hcz132_0 : wc.cell? ⟨gb332, 0, none⟩ = some (.int .i64 a0_0) := (blk_cell BK332.out 0).trans rfl
                  have hcz132_1 : wc.cell? ⟨gb332, 1, none⟩ = some (.int .i64 a0_1) := (blk_cell BK332.out 1).trans rfl
                  have hcz132_2 : wc.cell? ⟨gb332, 2, none⟩ = some (.int .i64 a0_2) := (blk_cell BK332.out 2).trans rfl
                  have hcz132_3 : wc.cell? ⟨gb332, 3, none⟩ = some (.int .i64 a0_3) := (blk_cell BK332.out 3).trans rfl
                  have hfz132_0 := blk_frozen BK332.out 0
                  have hfz132_1 := blk_frozen BK332.out 1
                  have hfz132_2 := blk_frozen BK332.out 2
                  have hfz132_3 := blk_frozen BK332.out 3
                  have hnb133 := NB336_333.out
                  have hnc133 := NB333_336.out
                  have hcz134_0 : wc.cell? ⟨gb336, 0, none⟩ = some (.int .i64 x337000_22) := (blk_cell BK336.out 0).trans rfl
                  have hcz134_1 : wc.cell? ⟨gb336, 1, none⟩ = some (.int .i64 x337001_22) := (blk_cell BK336.out 1).trans rfl
                  have hcz134_2 : wc.cell? ⟨gb336, 2, none⟩ = some (.int .i64 x337002_22) := (blk_cell BK336.out 2).trans rfl
                  have hcz134_3 : wc.cell? ⟨gb336, 3, none⟩ = some (.int .i64 x337003_22) := (blk_cell BK336.out 3).trans rfl
                  have hfz134_0 := blk_frozen BK336.out 0
                  have hfz134_1 := blk_frozen BK336.out 1
                  have hfz134_2 := blk_frozen BK336.out 2
                  have hfz134_3 := blk_frozen BK336.out 3
                  go_wp2_with (first | ((with_reducible refine gate_callee (f := 13) rfl ?_); refine goesL_ (some 91) rfl rfl Try.func13 (by kernel_rfl) rfl #[.agg #[.int .i64 a0_0, .int .i64 a0_1, .int .i64 a0_2, .int .i64 a0_3], .agg #[.int .i64 x337000_22, .int .i64 x337001_22, .int .i64 x337002_22, .int .i64 x337003_22]] rfl (by (try simp only [List.map_toArray, List.map_cons, List.map_nil]); first | done | rfl | (simp only [List.length_drop, List.length_take]; rfl)) ?_; (with_reducible refine (drive_Valid.calls kj22 a0_0 a0_1 a0_2 a0_3 x337000_22 x337001_22 x337002_22 x337003_22 true _ A76.out).mono ?_); rintro e w135 ⟨rfl, hb⟩; refine ⟨_, rfl, ?_⟩; have n0_ := Aside0.mk (bb_ BK332.out hb); have n1_ := Aside0.mk (bb_ BK333.out hb); have n2_ := Aside0.mk (bb_ BK336.out hb); have n3_ := Aside0.mk (below_step (by repeat (first | (with_reducible first | exact HB.out | apply below_alloc | apply pw_below_drewN | apply below_drew1 | refine below_set ?_ GE332.out | refine below_set ?_ GE333.out | refine below_set ?_ GE336.out) | exact HB.out)) hb); clear BK332; clear BK333; clear BK336; clear HB; have BK332 := n0_; have BK333 := n1_; have BK336 := n2_; have HB := n3_; clear n0_ n1_ n2_ n3_; (try clear hb); (try clear hb2); (try clear hk); (try clear hi); have p366 : 0 ≤ (x7_2 : Int) := of_decide_eq_true (by first | (with_reducible assumption) | assumption); have q366 : x7_2 < (l2.length : Int) := of_decide_eq_true (by first | (with_reducible assumption) | assumption); obtain ⟨ad366, e366, hx366_0, hx366_1⟩ := at_T42 HR2.out x7_2 p366 q366; obtain rfl : ad337 = ad366 := (by injection e366); replace hx366_0 := (HB.out.cell (World.block_lt_of_cell? w _ hx366_0)).trans hx366_0; replace hx366_1 := (HB.out.cell (World.block_lt_of_cell? w _ hx366_1)).trans hx366_1; replace p366 := eq_true p366; replace q366 := eq_true q366; have p367 : 0 ≤ (x7_2 : Int) := of_decide_eq_true (by first | (with_reducible assumption) | assumption); have q367 : x7_2 < (l2.length : Int) := of_decide_eq_true (by first | (with_reducible assumption) | assumption); obtain ⟨ad367, e367, hx367_0, hx367_1⟩ := at_T42 HR2.out x7_2 p367 q367; obtain rfl : ad337 = ad367 := (by injection e367); replace hx367_0 := (HB.out.cell (World.block_lt_of_cell? w _ hx367_0)).trans hx367_0; replace hx367_1 := (HB.out.cell (World.block_lt_of_cell? w _ hx367_1)).trans hx367_1; replace p367 := eq_true p367; replace q367 := eq_true q367; have hcz136_0 : w135.cell? ⟨gb333, 0, none⟩ = some (.int .i64 x334000_2) := (blk_cell BK333.out 0).trans rfl; have hcz136_1 : w135.cell? ⟨gb333, 1, none⟩ = some (.int .i64 x334001_2) := (blk_cell BK333.out 1).trans rfl; have hcz136_2 : w135.cell? ⟨gb333, 2, none⟩ = some (.int .i64 x334002_2) := (blk_cell BK333.out 2).trans rfl; have hcz136_3 : w135.cell? ⟨gb333, 3, none⟩ = some (.int .i64 x334003_2) := (blk_cell BK333.out 3).trans rfl; have hfz136_0 := blk_frozen BK333.out 0; have hfz136_1 := blk_frozen BK333.out 1; have hfz136_2 := blk_frozen BK333.out 2; have hfz136_3 := blk_frozen BK333.out 3; have hcz137_0 : w135.cell? ⟨gb336, 0, none⟩ = some (.int .i64 x337000_22) := (blk_cell BK336.out 0).trans rfl; have hcz137_1 : w135.cell? ⟨gb336, 1, none⟩ = some (.int .i64 x337001_22) := (blk_cell BK336.out 1).trans rfl; have hcz137_2 : w135.cell? ⟨gb336, 2, none⟩ = some (.int .i64 x337002_22) := (blk_cell BK336.out 2).trans rfl; have hcz137_3 : w135.cell? ⟨gb336, 3, none⟩ = some (.int .i64 x337003_22) := (blk_cell BK336.out 3).trans rfl; have hfz137_0 := blk_frozen BK336.out 0; have hfz137_1 := blk_frozen BK336.out 1; have hfz137_2 := blk_frozen BK336.out 2; have hfz137_3 := blk_frozen BK336.out 3))
                  go_roundg kj22
                  case measure => have := HJ5.out; have := HK2.out; have := HJ22.out; omega
                  case rel => exact ⟨(wrap64 (x7_2 + 1)), (x337000_22), (x337001_22), (x337002_22), (x337003_22), (by first | rfl | (simp; done) | (simp [*]; done)), H', ⟨by have := HJ5.out; have := HK2.out; have := HJ22.out; omega⟩, ⟨by (with_reducible repeat (first | refine blk_drewN ?_ _ | refine blk_drew ?_ | refine blk_alloc ?_ _)); refine blk_far ?_ NB332_333.out _; (with_reducible repeat (first | refine blk_drewN ?_ _ | refine blk_drew ?_ | refine blk_alloc ?_ _)); refine blk_far ?_ NB332_333.out _; (with_reducible repeat (first | refine blk_drewN ?_ _ | refine blk_drew ?_ | refine blk_alloc ?_ _)); refine blk_far ?_ NB332_333.out _; (with_reducible repeat (first | refine blk_drewN ?_ _ | refine blk_drew ?_ | refine blk_alloc ?_ _)); refine blk_far ?_ NB332_333.out _; (with_reducible repeat (first | refine blk_drewN ?_ _ | refine blk_drew ?_ | refine blk_alloc ?_ _)); exact BK332.out⟩, ⟨by (with_reducible repeat (first | refine blk_drewN ?_ _ | refine blk_drew ?_ | refine blk_alloc ?_ _)); refine blk_put (cs := #[.int .i64 x337000_22, .int .i64 x337001_22, .int .i64 x337002_22, .int .i64 x334003_2]) ?_ 3 _ rfl; (with_reducible repeat (first | refine blk_drewN ?_ _ | refine blk_drew ?_ | refine blk_alloc ?_ _)); refine blk_put (cs := #[.int .i64 x337000_22, .int .i64 x337001_22, .int .i64 x334002_2, .int .i64 x334003_2]) ?_ 2 _ rfl; (with_reducible repeat (first | refine blk_drewN ?_ _ | refine blk_drew ?_ | refine blk_alloc ?_ _)); refine blk_put (cs := #[.int .i64 x337000_22, .int .i64 x334001_2, .int .i64 x334002_2, .int .i64 x334003_2]) ?_ 1 _ rfl; (with_reducible repeat (first | refine blk_drewN ?_ _ | refine blk_drew ?_ | refine blk_alloc ?_ _)); refine blk_put (cs := #[.int .i64 x334000_2, .int .i64 x334001_2, .int .i64 x334002_2, .int .i64 x334003_2]) ?_ 0 _ rfl; (with_reducible repeat (first | refine blk_drewN ?_ _ | refine blk_drew ?_ | refine blk_alloc ?_ _)); exact BK333.out⟩, ⟨by repeat (first | (with_reducible first | exact HB.out | apply below_alloc | apply pw_below_drewN | apply below_drew1 | refine below_set ?_ GE332.out | refine below_set ?_ GE333.out | refine below_set ?_ GE336.out) | exact HB.out)⟩⟩
               ·rw [if_neg c80] at H
                have c80b0 : decide (0 ≤ ((rd_T42 l2 x7_2).f0)) = false := decide_eq_false c80
                clear c80
                by_cases c138 : x334000_2 = 3
                ·rw [if_pos c138] at H
                 have c138b0 : (x334000_2 == 3) = true := beq_iff_eq.mpr c138
                 have c138b1 : (x334000_2 != 3) = false := bne_eq_false_iff_eq.mpr c138
                 clear c138
                 by_cases c139 : ((rd_T42 l2 x7_2).f0) = 3
                 ·rw [if_pos c139] at H
                  have c139b0 : (((rd_T42 l2 x7_2).f0) == 3) = true := beq_iff_eq.mpr c139
                  have c139b1 : (((rd_T42 l2 x7_2).f0) != 3) = false := bne_eq_false_iff_eq.mpr c139
                  clear c139
                  have H' := Aside0.mk H
                  clear H
                  have hnb140 := NB332_333.out
                  have hnc140 := NB333_332.out
                  have hnb141 := NB332_336.out
                  have hnc141 := NB336_332.out
                  have hcz142_0 : wc.cell? ⟨gb332, 0, none⟩ = some (.int .i64 a0_0) := (blk_cell BK332.out 0).trans rfl
                  have hcz142_1 : wc.cell? ⟨gb332, 1, none⟩ = some (.int .i64 a0_1) := (blk_cell BK332.out 1).trans rfl
                  have hcz142_2 : wc.cell? ⟨gb332, 2, none⟩ = some (.int .i64 a0_2) := (blk_cell BK332.out 2).trans rfl
                  have hcz142_3 : wc.cell? ⟨gb332, 3, none⟩ = some (.int .i64 a0_3) := (blk_cell BK332.out 3).trans rfl
                  have hfz142_0 := blk_frozen BK332.out 0
                  have hfz142_1 := blk_frozen BK332.out 1
                  have hfz142_2 := blk_frozen BK332.out 2
                  have hfz142_3 := blk_frozen BK332.out 3
                  have hnb143 := NB336_333.out
                  have hnc143 := NB333_336.out
                  have hcz144_0 : wc.cell? ⟨gb336, 0, none⟩ = some (.int .i64 x337000_22) := (blk_cell BK336.out 0).trans rfl
                  have hcz144_1 : wc.cell? ⟨gb336, 1, none⟩ = some (.int .i64 x337001_22) := (blk_cell BK336.out 1).trans rfl
                  have hcz144_2 : wc.cell? ⟨gb336, 2, none⟩ = some (.int .i64 x337002_22) := (blk_cell BK336.out 2).trans rfl
                  have hcz144_3 : wc.cell? ⟨gb336, 3, none⟩ = some (.int .i64 x337003_22) := (blk_cell BK336.out 3).trans rfl
                  have hfz144_0 := blk_frozen BK336.out 0
                  have hfz144_1 := blk_frozen BK336.out 1
                  have hfz144_2 := blk_frozen BK336.out 2
                  have hfz144_3 := blk_frozen BK336.out 3
                  go_wp2_with (first | ((with_reducible refine gate_callee (f := 13) rfl ?_); refine goesL_ (some 91) rfl rfl Try.func13 (by kernel_rfl) rfl #[.agg #[.int .i64 a0_0, .int .i64 a0_1, .int .i64 a0_2, .int .i64 a0_3], .agg #[.int .i64 x337000_22, .int .i64 x337001_22, .int .i64 x337002_22, .int .i64 x337003_22]] rfl (by (try simp only [List.map_toArray, List.map_cons, List.map_nil]); first | done | rfl | (simp only [List.length_drop, List.length_take]; rfl)) ?_; (with_reducible refine (drive_Valid.calls kj22 a0_0 a0_1 a0_2 a0_3 x337000_22 x337001_22 x337002_22 x337003_22 true _ A76.out).mono ?_); rintro e w145 ⟨rfl, hb⟩; refine ⟨_, rfl, ?_⟩; have n0_ := Aside0.mk (bb_ BK332.out hb); have n1_ := Aside0.mk (bb_ BK333.out hb); have n2_ := Aside0.mk (bb_ BK336.out hb); have n3_ := Aside0.mk (below_step (by repeat (first | (with_reducible first | exact HB.out | apply below_alloc | apply pw_below_drewN | apply below_drew1 | refine below_set ?_ GE332.out | refine below_set ?_ GE333.out | refine below_set ?_ GE336.out) | exact HB.out)) hb); clear BK332; clear BK333; clear BK336; clear HB; have BK332 := n0_; have BK333 := n1_; have BK336 := n2_; have HB := n3_; clear n0_ n1_ n2_ n3_; (try clear hb); (try clear hb2); (try clear hk); (try clear hi); have p366 : 0 ≤ (x7_2 : Int) := of_decide_eq_true (by first | (with_reducible assumption) | assumption); have q366 : x7_2 < (l2.length : Int) := of_decide_eq_true (by first | (with_reducible assumption) | assumption); obtain ⟨ad366, e366, hx366_0, hx366_1⟩ := at_T42 HR2.out x7_2 p366 q366; obtain rfl : ad337 = ad366 := (by injection e366); replace hx366_0 := (HB.out.cell (World.block_lt_of_cell? w _ hx366_0)).trans hx366_0; replace hx366_1 := (HB.out.cell (World.block_lt_of_cell? w _ hx366_1)).trans hx366_1; replace p366 := eq_true p366; replace q366 := eq_true q366; have hcz146_0 : w145.cell? ⟨gb333, 0, none⟩ = some (.int .i64 x334000_2) := (blk_cell BK333.out 0).trans rfl; have hcz146_1 : w145.cell? ⟨gb333, 1, none⟩ = some (.int .i64 x334001_2) := (blk_cell BK333.out 1).trans rfl; have hcz146_2 : w145.cell? ⟨gb333, 2, none⟩ = some (.int .i64 x334002_2) := (blk_cell BK333.out 2).trans rfl; have hcz146_3 : w145.cell? ⟨gb333, 3, none⟩ = some (.int .i64 x334003_2) := (blk_cell BK333.out 3).trans rfl; have hfz146_0 := blk_frozen BK333.out 0; have hfz146_1 := blk_frozen BK333.out 1; have hfz146_2 := blk_frozen BK333.out 2; have hfz146_3 := blk_frozen BK333.out 3; have p370 : 0 ≤ (x7_2 : Int) := of_decide_eq_true (by first | (with_reducible assumption) | assumption); have q370 : x7_2 < (l2.length : Int) := of_decide_eq_true (by first | (with_reducible assumption) | assumption); obtain ⟨ad370, e370, hx370_0, hx370_1⟩ := at_T42 HR2.out x7_2 p370 q370; obtain rfl : ad337 = ad370 := (by injection e370); replace hx370_0 := (HB.out.cell (World.block_lt_of_cell? w _ hx370_0)).trans hx370_0; replace hx370_1 := (HB.out.cell (World.block_lt_of_cell? w _ hx370_1)).trans hx370_1; replace p370 := eq_true p370; replace q370 := eq_true q370; have hcz147_0 : w145.cell? ⟨gb336, 0, none⟩ = some (.int .i64 x337000_22) := (blk_cell BK336.out 0).trans rfl; have hcz147_1 : w145.cell? ⟨gb336, 1, none⟩ = some (.int .i64 x337001_22) := (blk_cell BK336.out 1).trans rfl; have hcz147_2 : w145.cell? ⟨gb336, 2, none⟩ = some (.int .i64 x337002_22) := (blk_cell BK336.out 2).trans rfl; have hcz147_3 : w145.cell? ⟨gb336, 3, none⟩ = some (.int .i64 x337003_22) := (blk_cell BK336.out 3).trans rfl; have hfz147_0 := blk_frozen BK336.out 0; have hfz147_1 := blk_frozen BK336.out 1; have hfz147_2 := blk_frozen BK336.out 2; have hfz147_3 := blk_frozen BK336.out 3))
                  go_roundg kj22
                  case measure => have := HJ5.out; have := HK2.out; have := HJ22.out; omega
                  case rel => exact ⟨(wrap64 (x7_2 + 1)), (x337000_22), (x337001_22), (x337002_22), (x337003_22), (by first | rfl | (simp; done) | (simp [*]; done)), H', ⟨by have := HJ5.out; have := HK2.out; have := HJ22.out; omega⟩, ⟨by (with_reducible repeat (first | refine blk_drewN ?_ _ | refine blk_drew ?_ | refine blk_alloc ?_ _)); refine blk_far ?_ NB332_333.out _; (with_reducible repeat (first | refine blk_drewN ?_ _ | refine blk_drew ?_ | refine blk_alloc ?_ _)); refine blk_far ?_ NB332_333.out _; (with_reducible repeat (first | refine blk_drewN ?_ _ | refine blk_drew ?_ | refine blk_alloc ?_ _)); refine blk_far ?_ NB332_333.out _; (with_reducible repeat (first | refine blk_drewN ?_ _ | refine blk_drew ?_ | refine blk_alloc ?_ _)); refine blk_far ?_ NB332_333.out _; (with_reducible repeat (first | refine blk_drewN ?_ _ | refine blk_drew ?_ | refine blk_alloc ?_ _)); exact BK332.out⟩, ⟨by (with_reducible repeat (first | refine blk_drewN ?_ _ | refine blk_drew ?_ | refine blk_alloc ?_ _)); refine blk_put (cs := #[.int .i64 x337000_22, .int .i64 x337001_22, .int .i64 x337002_22, .int .i64 x334003_2]) ?_ 3 _ rfl; (with_reducible repeat (first | refine blk_drewN ?_ _ | refine blk_drew ?_ | refine blk_alloc ?_ _)); refine blk_put (cs := #[.int .i64 x337000_22, .int .i64 x337001_22, .int .i64 x334002_2, .int .i64 x334003_2]) ?_ 2 _ rfl; (with_reducible repeat (first | refine blk_drewN ?_ _ | refine blk_drew ?_ | refine blk_alloc ?_ _)); refine blk_put (cs := #[.int .i64 x337000_22, .int .i64 x334001_2, .int .i64 x334002_2, .int .i64 x334003_2]) ?_ 1 _ rfl; (with_reducible repeat (first | refine blk_drewN ?_ _ | refine blk_drew ?_ | refine blk_alloc ?_ _)); refine blk_put (cs := #[.int .i64 x334000_2, .int .i64 x334001_2, .int .i64 x334002_2, .int .i64 x334003_2]) ?_ 0 _ rfl; (with_reducible repeat (first | refine blk_drewN ?_ _ | refine blk_drew ?_ | refine blk_alloc ?_ _)); exact BK333.out⟩, ⟨by repeat (first | (with_reducible first | exact HB.out | apply below_alloc | apply pw_below_drewN | apply below_drew1 | refine below_set ?_ GE332.out | refine below_set ?_ GE333.out | refine below_set ?_ GE336.out) | exact HB.out)⟩⟩
                 ·rw [if_neg c139] at H
                  have c139b0 : (((rd_T42 l2 x7_2).f0) == 3) = false := beq_eq_false_iff_ne.mpr c139
                  have c139b1 : (((rd_T42 l2 x7_2).f0) != 3) = true := bne_iff_ne.mpr c139
                  by_cases c148 : x337000_22 = 3
                  ·rw [if_pos c148] at H
                   have c148b0 : (x337000_22 == 3) = true := beq_iff_eq.mpr c148
                   have c148b1 : (x337000_22 != 3) = false := bne_eq_false_iff_eq.mpr c148
                   clear c148
                   have H' := Aside0.mk H
                   clear H
                   have hnb149 := NB332_333.out
                   have hnc149 := NB333_332.out
                   have hnb150 := NB332_336.out
                   have hnc150 := NB336_332.out
                   have hcz151_0 : wc.cell? ⟨gb332, 0, none⟩ = some (.int .i64 a0_0) := (blk_cell BK332.out 0).trans rfl
                   have hcz151_1 : wc.cell? ⟨gb332, 1, none⟩ = some (.int .i64 a0_1) := (blk_cell BK332.out 1).trans rfl
                   have hcz151_2 : wc.cell? ⟨gb332, 2, none⟩ = some (.int .i64 a0_2) := (blk_cell BK332.out 2).trans rfl
                   have hcz151_3 : wc.cell? ⟨gb332, 3, none⟩ = some (.int .i64 a0_3) := (blk_cell BK332.out 3).trans rfl
                   have hfz151_0 := blk_frozen BK332.out 0
                   have hfz151_1 := blk_frozen BK332.out 1
                   have hfz151_2 := blk_frozen BK332.out 2
                   have hfz151_3 := blk_frozen BK332.out 3
                   have hnb152 := NB336_333.out
                   have hnc152 := NB333_336.out
                   have hcz153_0 : wc.cell? ⟨gb336, 0, none⟩ = some (.int .i64 x337000_22) := (blk_cell BK336.out 0).trans rfl
                   have hcz153_1 : wc.cell? ⟨gb336, 1, none⟩ = some (.int .i64 x337001_22) := (blk_cell BK336.out 1).trans rfl
                   have hcz153_2 : wc.cell? ⟨gb336, 2, none⟩ = some (.int .i64 x337002_22) := (blk_cell BK336.out 2).trans rfl
                   have hcz153_3 : wc.cell? ⟨gb336, 3, none⟩ = some (.int .i64 x337003_22) := (blk_cell BK336.out 3).trans rfl
                   have hfz153_0 := blk_frozen BK336.out 0
                   have hfz153_1 := blk_frozen BK336.out 1
                   have hfz153_2 := blk_frozen BK336.out 2
                   have hfz153_3 := blk_frozen BK336.out 3
                   go_wp2_with (first | ((with_reducible refine gate_callee (f := 13) rfl ?_); refine goesL_ (some 91) rfl rfl Try.func13 (by kernel_rfl) rfl #[.agg #[.int .i64 a0_0, .int .i64 a0_1, .int .i64 a0_2, .int .i64 a0_3], .agg #[.int .i64 x337000_22, .int .i64 x337001_22, .int .i64 x337002_22, .int .i64 x337003_22]] rfl (by (try simp only [List.map_toArray, List.map_cons, List.map_nil]); first | done | rfl | (simp only [List.length_drop, List.length_take]; rfl)) ?_; (with_reducible refine (drive_Valid.calls kj22 a0_0 a0_1 a0_2 a0_3 x337000_22 x337001_22 x337002_22 x337003_22 true _ A76.out).mono ?_); rintro e w154 ⟨rfl, hb⟩; refine ⟨_, rfl, ?_⟩; have n0_ := Aside0.mk (bb_ BK332.out hb); have n1_ := Aside0.mk (bb_ BK333.out hb); have n2_ := Aside0.mk (bb_ BK336.out hb); have n3_ := Aside0.mk (below_step (by repeat (first | (with_reducible first | exact HB.out | apply below_alloc | apply pw_below_drewN | apply below_drew1 | refine below_set ?_ GE332.out | refine below_set ?_ GE333.out | refine below_set ?_ GE336.out) | exact HB.out)) hb); clear BK332; clear BK333; clear BK336; clear HB; have BK332 := n0_; have BK333 := n1_; have BK336 := n2_; have HB := n3_; clear n0_ n1_ n2_ n3_; (try clear hb); (try clear hb2); (try clear hk); (try clear hi); have p366 : 0 ≤ (x7_2 : Int) := of_decide_eq_true (by first | (with_reducible assumption) | assumption); have q366 : x7_2 < (l2.length : Int) := of_decide_eq_true (by first | (with_reducible assumption) | assumption); obtain ⟨ad366, e366, hx366_0, hx366_1⟩ := at_T42 HR2.out x7_2 p366 q366; obtain rfl : ad337 = ad366 := (by injection e366); replace hx366_0 := (HB.out.cell (World.block_lt_of_cell? w _ hx366_0)).trans hx366_0; replace hx366_1 := (HB.out.cell (World.block_lt_of_cell? w _ hx366_1)).trans hx366_1; replace p366 := eq_true p366; replace q366 := eq_true q366; have hcz155_0 : w154.cell? ⟨gb333, 0, none⟩ = some (.int .i64 x334000_2) := (blk_cell BK333.out 0).trans rfl; have hcz155_1 : w154.cell? ⟨gb333, 1, none⟩ = some (.int .i64 x334001_2) := (blk_cell BK333.out 1).trans rfl; have hcz155_2 : w154.cell? ⟨gb333, 2, none⟩ = some (.int .i64 x334002_2) := (blk_cell BK333.out 2).trans rfl; have hcz155_3 : w154.cell? ⟨gb333, 3, none⟩ = some (.int .i64 x334003_2) := (blk_cell BK333.out 3).trans rfl; have hfz155_0 := blk_frozen BK333.out 0; have hfz155_1 := blk_frozen BK333.out 1; have hfz155_2 := blk_frozen BK333.out 2; have hfz155_3 := blk_frozen BK333.out 3; have p370 : 0 ≤ (x7_2 : Int) := of_decide_eq_true (by first | (with_reducible assumption) | assumption); have q370 : x7_2 < (l2.length : Int) := of_decide_eq_true (by first | (with_reducible assumption) | assumption); obtain ⟨ad370, e370, hx370_0, hx370_1⟩ := at_T42 HR2.out x7_2 p370 q370; obtain rfl : ad337 = ad370 := (by injection e370); replace hx370_0 := (HB.out.cell (World.block_lt_of_cell? w _ hx370_0)).trans hx370_0; replace hx370_1 := (HB.out.cell (World.block_lt_of_cell? w _ hx370_1)).trans hx370_1; replace p370 := eq_true p370; replace q370 := eq_true q370; have hcz156_0 : w154.cell? ⟨gb336, 0, none⟩ = some (.int .i64 x337000_22) := (blk_cell BK336.out 0).trans rfl; have hcz156_1 : w154.cell? ⟨gb336, 1, none⟩ = some (.int .i64 x337001_22) := (blk_cell BK336.out 1).trans rfl; have hcz156_2 : w154.cell? ⟨gb336, 2, none⟩ = some (.int .i64 x337002_22) := (blk_cell BK336.out 2).trans rfl; have hcz156_3 : w154.cell? ⟨gb336, 3, none⟩ = some (.int .i64 x337003_22) := (blk_cell BK336.out 3).trans rfl; have hfz156_0 := blk_frozen BK336.out 0; have hfz156_1 := blk_frozen BK336.out 1; have hfz156_2 := blk_frozen BK336.out 2; have hfz156_3 := blk_frozen BK336.out 3))
                   go_roundg kj22
                   case measure => have := HJ5.out; have := HK2.out; have := HJ22.out; omega
                   case rel => exact ⟨(wrap64 (x7_2 + 1)), (x337000_22), (x337001_22), (x337002_22), (x337003_22), (by first | rfl | (simp; done) | (simp [*]; done)), H', ⟨by have := HJ5.out; have := HK2.out; have := HJ22.out; omega⟩, ⟨by (with_reducible repeat (first | refine blk_drewN ?_ _ | refine blk_drew ?_ | refine blk_alloc ?_ _)); refine blk_far ?_ NB332_333.out _; (with_reducible repeat (first | refine blk_drewN ?_ _ | refine blk_drew ?_ | refine blk_alloc ?_ _)); refine blk_far ?_ NB332_333.out _; (with_reducible repeat (first | refine blk_drewN ?_ _ | refine blk_drew ?_ | refine blk_alloc ?_ _)); refine blk_far ?_ NB332_333.out _; (with_reducible repeat (first | refine blk_drewN ?_ _ | refine blk_drew ?_ | refine blk_alloc ?_ _)); refine blk_far ?_ NB332_333.out _; (with_reducible repeat (first | refine blk_drewN ?_ _ | refine blk_drew ?_ | refine blk_alloc ?_ _)); exact BK332.out⟩, ⟨by (with_reducible repeat (first | refine blk_drewN ?_ _ | refine blk_drew ?_ | refine blk_alloc ?_ _)); refine blk_put (cs := #[.int .i64 x337000_22, .int .i64 x337001_22, .int .i64 x337002_22, .int .i64 x334003_2]) ?_ 3 _ rfl; (with_reducible repeat (first | refine blk_drewN ?_ _ | refine blk_drew ?_ | refine blk_alloc ?_ _)); refine blk_put (cs := #[.int .i64 x337000_22, .int .i64 x337001_22, .int .i64 x334002_2, .int .i64 x334003_2]) ?_ 2 _ rfl; (with_reducible repeat (first | refine blk_drewN ?_ _ | refine blk_drew ?_ | refine blk_alloc ?_ _)); refine blk_put (cs := #[.int .i64 x337000_22, .int .i64 x334001_2, .int .i64 x334002_2, .int .i64 x334003_2]) ?_ 1 _ rfl; (with_reducible repeat (first | refine blk_drewN ?_ _ | refine blk_drew ?_ | refine blk_alloc ?_ _)); refine blk_put (cs := #[.int .i64 x334000_2, .int .i64 x334001_2, .int .i64 x334002_2, .int .i64 x334003_2]) ?_ 0 _ rfl; (with_reducible repeat (first | refine blk_drewN ?_ _ | refine blk_drew ?_ | refine blk_alloc ?_ _)); exact BK333.out⟩, ⟨by repeat (first | (with_reducible first | exact HB.out | apply below_alloc | apply pw_below_drewN | apply below_drew1 | refine below_set ?_ GE332.out | refine below_set ?_ GE333.out | refine below_set ?_ GE336.out) | exact HB.out)⟩⟩
                  ·rw [if_neg c148] at H
                   exact absurd H (by simp)
                ·rw [if_neg c138] at H
                 have c138b0 : (x334000_2 == 3) = false := beq_eq_false_iff_ne.mpr c138
                 have c138b1 : (x334000_2 != 3) = true := bne_iff_ne.mpr c138
                 have H' := Aside0.mk H
                 clear H
                 have hnb157 := NB332_333.out
                 have hnc157 := NB333_332.out
                 have hnb158 := NB332_336.out
                 have hnc158 := NB336_332.out
                 have hcz159_0 : wc.cell? ⟨gb332, 0, none⟩ = some (.int .i64 a0_0) := (blk_cell BK332.out 0).trans rfl
                 have hcz159_1 : wc.cell? ⟨gb332, 1, none⟩ = some (.int .i64 a0_1) := (blk_cell BK332.out 1).trans rfl
                 have hcz159_2 : wc.cell? ⟨gb332, 2, none⟩ = some (.int .i64 a0_2) := (blk_cell BK332.out 2).trans rfl
                 have hcz159_3 : wc.cell? ⟨gb332, 3, none⟩ = some (.int .i64 a0_3) := (blk_cell BK332.out 3).trans rfl
                 have hfz159_0 := blk_frozen BK332.out 0
                 have hfz159_1 := blk_frozen BK332.out 1
                 have hfz159_2 := blk_frozen BK332.out 2
                 have hfz159_3 := blk_frozen BK332.out 3
                 have hnb160 := NB336_333.out
                 have hnc160 := NB333_336.out
                 have hcz161_0 : wc.cell? ⟨gb336, 0, none⟩ = some (.int .i64 x337000_22) := (blk_cell BK336.out 0).trans rfl
                 have hcz161_1 : wc.cell? ⟨gb336, 1, none⟩ = some (.int .i64 x337001_22) := (blk_cell BK336.out 1).trans rfl
                 have hcz161_2 : wc.cell? ⟨gb336, 2, none⟩ = some (.int .i64 x337002_22) := (blk_cell BK336.out 2).trans rfl
                 have hcz161_3 : wc.cell? ⟨gb336, 3, none⟩ = some (.int .i64 x337003_22) := (blk_cell BK336.out 3).trans rfl
                 have hfz161_0 := blk_frozen BK336.out 0
                 have hfz161_1 := blk_frozen BK336.out 1
                 have hfz161_2 := blk_frozen BK336.out 2
                 have hfz161_3 := blk_frozen BK336.out 3
                 go_wp2_with (first | ((with_reducible refine gate_callee (f := 13) rfl ?_); refine goesL_ (some 91) rfl rfl Try.func13 (by kernel_rfl) rfl #[.agg #[.int .i64 a0_0, .int .i64 a0_1, .int .i64 a0_2, .int .i64 a0_3], .agg #[.int .i64 x337000_22, .int .i64 x337001_22, .int .i64 x337002_22, .int .i64 x337003_22]] rfl (by (try simp only [List.map_toArray, List.map_cons, List.map_nil]); first | done | rfl | (simp only [List.length_drop, List.length_take]; rfl)) ?_; (with_reducible refine (drive_Valid.calls kj22 a0_0 a0_1 a0_2 a0_3 x337000_22 x337001_22 x337002_22 x337003_22 true _ A76.out).mono ?_); rintro e w162 ⟨rfl, hb⟩; refine ⟨_, rfl, ?_⟩; have n0_ := Aside0.mk (bb_ BK332.out hb); have n1_ := Aside0.mk (bb_ BK333.out hb); have n2_ := Aside0.mk (bb_ BK336.out hb); have n3_ := Aside0.mk (below_step (by repeat (first | (with_reducible first | exact HB.out | apply below_alloc | apply pw_below_drewN | apply below_drew1 | refine below_set ?_ GE332.out | refine below_set ?_ GE333.out | refine below_set ?_ GE336.out) | exact HB.out)) hb); clear BK332; clear BK333; clear BK336; clear HB; have BK332 := n0_; have BK333 := n1_; have BK336 := n2_; have HB := n3_; clear n0_ n1_ n2_ n3_; (try clear hb); (try clear hb2); (try clear hk); (try clear hi); have p366 : 0 ≤ (x7_2 : Int) := of_decide_eq_true (by first | (with_reducible assumption) | assumption); have q366 : x7_2 < (l2.length : Int) := of_decide_eq_true (by first | (with_reducible assumption) | assumption); obtain ⟨ad366, e366, hx366_0, hx366_1⟩ := at_T42 HR2.out x7_2 p366 q366; obtain rfl : ad337 = ad366 := (by injection e366); replace hx366_0 := (HB.out.cell (World.block_lt_of_cell? w _ hx366_0)).trans hx366_0; replace hx366_1 := (HB.out.cell (World.block_lt_of_cell? w _ hx366_1)).trans hx366_1; replace p366 := eq_true p366; replace q366 := eq_true q366; have hcz163_0 : w162.cell? ⟨gb333, 0, none⟩ = some (.int .i64 x334000_2) := (blk_cell BK333.out 0).trans rfl; have hcz163_1 : w162.cell? ⟨gb333, 1, none⟩ = some (.int .i64 x334001_2) := (blk_cell BK333.out 1).trans rfl; have hcz163_2 : w162.cell? ⟨gb333, 2, none⟩ = some (.int .i64 x334002_2) := (blk_cell BK333.out 2).trans rfl; have hcz163_3 : w162.cell? ⟨gb333, 3, none⟩ = some (.int .i64 x334003_2) := (blk_cell BK333.out 3).trans rfl; have hfz163_0 := blk_frozen BK333.out 0; have hfz163_1 := blk_frozen BK333.out 1; have hfz163_2 := blk_frozen BK333.out 2; have hfz163_3 := blk_frozen BK333.out 3; have hcz164_0 : w162.cell? ⟨gb336, 0, none⟩ = some (.int .i64 x337000_22) := (blk_cell BK336.out 0).trans rfl; have hcz164_1 : w162.cell? ⟨gb336, 1, none⟩ = some (.int .i64 x337001_22) := (blk_cell BK336.out 1).trans rfl; have hcz164_2 : w162.cell? ⟨gb336, 2, none⟩ = some (.int .i64 x337002_22) := (blk_cell BK336.out 2).trans rfl; have hcz164_3 : w162.cell? ⟨gb336, 3, none⟩ = some (.int .i64 x337003_22) := (blk_cell BK336.out 3).trans rfl; have hfz164_0 := blk_frozen BK336.out 0; have hfz164_1 := blk_frozen BK336.out 1; have hfz164_2 := blk_frozen BK336.out 2; have hfz164_3 := blk_frozen BK336.out 3))
                 go_roundg kj22
                 case measure => have := HJ5.out; have := HK2.out; have := HJ22.out; omega
                 case rel => exact ⟨(wrap64 (x7_2 + 1)), (x337000_22), (x337001_22), (x337002_22), (x337003_22), (by first | rfl | (simp; done) | (simp [*]; done)), H', ⟨by have := HJ5.out; have := HK2.out; have := HJ22.out; omega⟩, ⟨by (with_reducible repeat (first | refine blk_drewN ?_ _ | refine blk_drew ?_ | refine blk_alloc ?_ _)); refine blk_far ?_ NB332_333.out _; (with_reducible repeat (first | refine blk_drewN ?_ _ | refine blk_drew ?_ | refine blk_alloc ?_ _)); refine blk_far ?_ NB332_333.out _; (with_reducible repeat (first | refine blk_drewN ?_ _ | refine blk_drew ?_ | refine blk_alloc ?_ _)); refine blk_far ?_ NB332_333.out _; (with_reducible repeat (first | refine blk_drewN ?_ _ | refine blk_drew ?_ | refine blk_alloc ?_ _)); refine blk_far ?_ NB332_333.out _; (with_reducible repeat (first | refine blk_drewN ?_ _ | refine blk_drew ?_ | refine blk_alloc ?_ _)); exact BK332.out⟩, ⟨by (with_reducible repeat (first | refine blk_drewN ?_ _ | refine blk_drew ?_ | refine blk_alloc ?_ _)); refine blk_put (cs := #[.int .i64 x337000_22, .int .i64 x337001_22, .int .i64 x337002_22, .int .i64 x334003_2]) ?_ 3 _ rfl; (with_reducible repeat (first | refine blk_drewN ?_ _ | refine blk_drew ?_ | refine blk_alloc ?_ _)); refine blk_put (cs := #[.int .i64 x337000_22, .int .i64 x337001_22, .int .i64 x334002_2, .int .i64 x334003_2]) ?_ 2 _ rfl; (with_reducible repeat (first | refine blk_drewN ?_ _ | refine blk_drew ?_ | refine blk_alloc ?_ _)); refine blk_put (cs := #[.int .i64 x337000_22, .int .i64 x334001_2, .int .i64 x334002_2, .int .i64 x334003_2]) ?_ 1 _ rfl; (with_reducible repeat (first | refine blk_drewN ?_ _ | refine blk_drew ?_ | refine blk_alloc ?_ _)); refine blk_put (cs := #[.int .i64 x334000_2, .int .i64 x334001_2, .int .i64 x334002_2, .int .i64 x334003_2]) ?_ 0 _ rfl; (with_reducible repeat (first | refine blk_drewN ?_ _ | refine blk_drew ?_ | refine blk_alloc ?_ _)); exact BK333.out⟩, ⟨by repeat (first | (with_reducible first | exact HB.out | apply below_alloc | apply pw_below_drewN | apply below_drew1 | refine below_set ?_ GE332.out | refine below_set ?_ GE333.out | refine below_set ?_ GE336.out) | exact HB.out)⟩⟩
              ·rw [if_neg c79] at H
               exact absurd H (by simp)
             ·rw [if_neg c78] at H
              exact absurd H (by simp)
            ·replace c77 := Bool.eq_false_iff.mpr c77
             subst c77
             have H1 : (none) = some r := by rw [if_neg (show ¬ (false = true) by decide)] at H; exact H
             clear H
             have H := H1
             clear H1
             exact absurd H (by simp)
           ·rw [if_neg c75] at H
            have c75b0 : (x9_22 == 0) = false := beq_eq_false_iff_ne.mpr c75
            have c75b1 : (x9_22 != 0) = true := bne_iff_ne.mpr c75
            by_cases c165 : (!(x337000_22 == 0) || (!(x337001_22 == 0) || (!(x337002_22 == 0) || (!(x337003_22 == 0))))) = true
            ·rw [if_pos c165] at H
             exact absurd H (by simp)
            ·rw [if_neg c165] at H
             have c165b0 : (!(x337000_22 == 0) || (!(x337001_22 == 0) || (!(x337002_22 == 0) || (!(x337003_22 == 0))))) = false := by simpa using c165
             clear c165
             have H' := Aside0.mk H
             clear H
             have hnb166 := NB336_332.out
             have hnc166 := NB332_336.out
             have hnb167 := NB336_333.out
             have hnc167 := NB333_336.out
             have hcz168_0 : wc.cell? ⟨gb336, 0, none⟩ = some (.int .i64 x337000_22) := (blk_cell BK336.out 0).trans rfl
             have hcz168_1 : wc.cell? ⟨gb336, 1, none⟩ = some (.int .i64 x337001_22) := (blk_cell BK336.out 1).trans rfl
             have hcz168_2 : wc.cell? ⟨gb336, 2, none⟩ = some (.int .i64 x337002_22) := (blk_cell BK336.out 2).trans rfl
             have hcz168_3 : wc.cell? ⟨gb336, 3, none⟩ = some (.int .i64 x337003_22) := (blk_cell BK336.out 3).trans rfl
             have hfz168_0 := blk_frozen BK336.out 0
             have hfz168_1 := blk_frozen BK336.out 1
             have hfz168_2 := blk_frozen BK336.out 2
             have hfz168_3 := blk_frozen BK336.out 3
             go_wp2
             go_roundg kj22
             case measure => have := HJ5.out; have := HK2.out; have := HJ22.out; omega
             case rel => exact ⟨(wrap64 (x7_2 + 1)), (x334000_2), (x334001_2), (x334002_2), (x334003_2), (by first | rfl | (simp; done) | (simp [*]; done)), H', ⟨by have := HJ5.out; have := HK2.out; have := HJ22.out; omega⟩, ⟨by (with_reducible repeat (first | refine blk_drewN ?_ _ | refine blk_drew ?_ | refine blk_alloc ?_ _)); exact BK332.out⟩, ⟨by (with_reducible repeat (first | refine blk_drewN ?_ _ | refine blk_drew ?_ | refine blk_alloc ?_ _)); exact BK333.out⟩, ⟨by repeat (first | (with_reducible first | exact HB.out | apply below_alloc | apply pw_below_drewN | apply below_drew1 | refine below_set ?_ GE332.out | refine below_set ?_ GE333.out | refine below_set ?_ GE336.out) | exact HB.out)⟩⟩
        ·rw [if_neg c22] at H
         exact absurd H (by simp)
       ·rw [if_neg c21] at H
        have c21b0 : decide (x7_2 < (l2.length : Int)) = false := decide_eq_false c21
        clear c21
        obtain rfl := Option.some.inj H
        go_wp2
        go_ret
        exact ⟨by first | rfl | (simp [errW_none, errW_some] <;> rfl) | (simp [*, errW_none, errW_some] <;> rfl), by repeat (first | (with_reducible first | exact HB.out | apply below_alloc | apply pw_below_drewN | apply below_drew1 | refine below_set ?_ GE332.out | refine below_set ?_ GE333.out) | exact HB.out)⟩
 ·replace c5 := Bool.eq_false_iff.mpr c5
  subst c5
  have H1 : (none) = some r := by rw [if_neg (show ¬ (false = true) by decide)] at H; exact H
  clear H
  have H := H1
  clear H1
  exact absurd H (by simp)

end Go.Proofs.Ytaleljinebkdkaa.P
