-- Written by wip/tools/laws.py of this repo over the kit's printer, for this claim.
import Derived.Test.YtaleljinebkdkaaPx0
import Derived.Test.YtaleljinebkdkaaPx1
import Derived.Test.YtaleljinebkdkaaPx7
import Derived.Test.YtaleljinebkdkaaPx11
import Derived.Test.YtaleljinebkdkaaPx14
import Derived.Test.YtaleljinebkdkaaPx18
import Derived.Test.YtaleljinebkdkaaPx28
namespace Go.Proofs.Ytaleljinebkdkaa.P
open Go.RowKit Go.Proofs.YtaleljinebkdkaaW.PrintWords Go.Proofs.YtaleljinebkdkaaW.PrintLast Go.Proofs.YtaleljinebkdkaaW.PrintMore
attribute [local go_sem] max2_int min2_int max_two min_two max_three min_three max_four min_four   -- for this text's walks alone
set_option linter.unusedVariables false
set_option linter.unusedSimpArgs false

attribute [local go_sem high] eqA25
/-! ### skiarealaw14_DriveTargets: function 7 -/
def skiarealaw14_DriveTargets.j0 : Nat → Bool → Int → Int → Int → Int → Int → Int → Int → Int → Int → Int → Int → Int → Option (Bool)
 | 0, _, _, _, _, _, _, _, _, _, _, _, _, _ => none
 | k + 1, x85, x313000, x313001, x313002, x313003, x314000, x314001, x314002, x314003, x321000, x321001, x321002, x321003 => if x85 = true then (none) else (if x314000 = 0 then (some (x321000 == x314000 && (x321001 == x314001 && (x321002 == x314002 && (x321003 == x314003))))) else ((drive_Halt.f x313000 x313001 x313002 x313003 x314000 x314001 x314002 x314003).bind fun bt321 => ((drive_Step.f k x313000 x313001 x313002 x313003 bt321.1 bt321.2.1 bt321.2.2.1 bt321.2.2.2 240).bind fun bt325 => (if x314000 = 3 then (if bt325.2.1 = 0 then ((skiarealaw14_far.f x314000 x314001 x314002 x314003 x321000 x321001 x321002 x321003).bind fun t330 => (some (t330 == x321001))) else (none)) else (if bt325.1 = 0 then (if bt325.2.1 = 0 then ((skiarealaw14_far.f x314000 x314001 x314002 x314003 x321000 x321001 x321002 x321003).bind fun t331 => (some (t331 == x321001))) else (none)) else (none))))))
def skiarealaw14_DriveTargets.f (k : Nat) (a0_0 : Int) (a0_1 : Int) (a0_2 : Int) (a0_3 : Int) (a1_0 : Int) (a1_1 : Int) (a1_2 : Int) (a1_3 : Int) : Option (Bool) := (skiarealaw14_alive.f k).bind fun t314 => (if t314 = true then ((skiarealaw14_valid.f k a0_0 a0_1 a0_2 a0_3 a1_0 a1_1 a1_2 a1_3).bind fun t315 => (if t315 = true then ((drive_Step.f k a0_0 a0_1 a0_2 a0_3 a1_0 a1_1 a1_2 a1_3 1).bind fun bt316 => (if a1_0 = 1 then (if bt316.1 = 1 then (if bt316.2.2.1 = a1_2 then (if (mx (wrap64 (bt316.2.1 - bt316.2.2.1)) (wrap64 (bt316.2.2.1 - bt316.2.1))) > (mx (wrap64 (a1_1 - a1_2)) (wrap64 (a1_2 - a1_1))) then (none) else (if (mx (wrap64 (bt316.2.1 - bt316.2.2.1)) (wrap64 (bt316.2.2.1 - bt316.2.1))) = (mx (wrap64 (a1_1 - a1_2)) (wrap64 (a1_2 - a1_1))) then (if (mx (wrap64 (a1_1 - a1_2)) (wrap64 (a1_2 - a1_1))) = 0 then (if ((decide (bt316.2.1 < bt316.2.2.1)) != (decide (a1_1 < a1_2))) = true then (skiarealaw14_DriveTargets.j0 k ((mx (wrap64 (bt316.2.1 - bt316.2.2.1)) (wrap64 (bt316.2.2.1 - bt316.2.1))) != 0) a0_0 a0_1 a0_2 a0_3 a1_0 a1_1 a1_2 a1_3 bt316.1 bt316.2.1 bt316.2.2.1 bt316.2.2.2) else (skiarealaw14_DriveTargets.j0 k false a0_0 a0_1 a0_2 a0_3 a1_0 a1_1 a1_2 a1_3 bt316.1 bt316.2.1 bt316.2.2.1 bt316.2.2.2)) else (none)) else (if ((decide (bt316.2.1 < bt316.2.2.1)) != (decide (a1_1 < a1_2))) = true then (skiarealaw14_DriveTargets.j0 k ((mx (wrap64 (bt316.2.1 - bt316.2.2.1)) (wrap64 (bt316.2.2.1 - bt316.2.1))) != 0) a0_0 a0_1 a0_2 a0_3 a1_0 a1_1 a1_2 a1_3 bt316.1 bt316.2.1 bt316.2.2.1 bt316.2.2.2) else (skiarealaw14_DriveTargets.j0 k false a0_0 a0_1 a0_2 a0_3 a1_0 a1_1 a1_2 a1_3 bt316.1 bt316.2.1 bt316.2.2.1 bt316.2.2.2)))) else (none)) else (none)) else (skiarealaw14_DriveTargets.j0 k false a0_0 a0_1 a0_2 a0_3 a1_0 a1_1 a1_2 a1_3 bt316.1 bt316.2.1 bt316.2.2.1 bt316.2.2.2))) else (some true))) else (none))
theorem skiarealaw14_DriveTargets.mono_l : ∀ k, (∀ y0 y1 y2 y3 y4 y5 y6 y7 y8 y9 y10 y11 y12, LeO (skiarealaw14_DriveTargets.j0 k y0 y1 y2 y3 y4 y5 y6 y7 y8 y9 y10 y11 y12) (skiarealaw14_DriveTargets.j0 (k + 1) y0 y1 y2 y3 y4 y5 y6 y7 y8 y9 y10 y11 y12))
 | 0 => fun _ _ _ _ _ _ _ _ _ _ _ _ _ r h => by simp [skiarealaw14_DriveTargets.j0] at h
 | k + 1 => by
  have ih0 := skiarealaw14_DriveTargets.mono_l k
  ·intro y0 y1 y2 y3 y4 y5 y6 y7 y8 y9 y10 y11 y12
   unfold skiarealaw14_DriveTargets.j0
   repeat' first
   | (with_reducible exact ih0 _ _ _ _ _ _ _ _ _ _ _ _ _)
   | (with_reducible exact drive_Step.mono _ _ _ _ _ _ _ _ _ _)
   | (with_reducible exact skiarealaw14_alive.mono _)
   | (with_reducible exact skiarealaw14_valid.mono _ _ _ _ _ _ _ _ _)
   | (with_reducible exact LeO.refl _)
   | (with_reducible exact LeO.none _)
   | (with_reducible refine LeO.ite ?_ ?_)
   | (with_reducible refine LeO.bind ?_ (fun _ => ?_))
   | exact ih0 _ _ _ _ _ _ _ _ _ _ _ _ _
   | exact drive_Step.mono _ _ _ _ _ _ _ _ _ _
   | exact skiarealaw14_alive.mono _
   | exact skiarealaw14_valid.mono _ _ _ _ _ _ _ _ _
   | exact LeO.none _
   | refine LeO.ite ?_ ?_
   | refine LeO.bind ?_ (fun _ => ?_)
theorem skiarealaw14_DriveTargets.mono : ∀ a0 a1 a2 a3 a4 a5 a6 a7 k, LeO (skiarealaw14_DriveTargets.f k a0 a1 a2 a3 a4 a5 a6 a7) (skiarealaw14_DriveTargets.f (k + 1) a0 a1 a2 a3 a4 a5 a6 a7) := by
 intro a0 a1 a2 a3 a4 a5 a6 a7 k
 have ih0 := skiarealaw14_DriveTargets.mono_l k
 unfold skiarealaw14_DriveTargets.f
 repeat' first
   | (with_reducible exact ih0 _ _ _ _ _ _ _ _ _ _ _ _ _)
   | (with_reducible exact drive_Step.mono _ _ _ _ _ _ _ _ _ _)
   | (with_reducible exact skiarealaw14_alive.mono _)
   | (with_reducible exact skiarealaw14_valid.mono _ _ _ _ _ _ _ _ _)
   | (with_reducible exact LeO.refl _)
   | (with_reducible exact LeO.none _)
   | (with_reducible refine LeO.ite ?_ ?_)
   | (with_reducible refine LeO.bind ?_ (fun _ => ?_))
   | exact ih0 _ _ _ _ _ _ _ _ _ _ _ _ _
   | exact drive_Step.mono _ _ _ _ _ _ _ _ _ _
   | exact skiarealaw14_alive.mono _
   | exact skiarealaw14_valid.mono _ _ _ _ _ _ _ _ _
   | exact LeO.none _
   | refine LeO.ite ?_ ?_
   | refine LeO.bind ?_ (fun _ => ?_)
def skiarealaw14_DriveTargets.T13 : Bool × List (List Nat × List Nat) := (true, [([], []), ([0], [0]), ([1], [1]), ([2], [2]), ([3], [3]), ([4, 3], [3, 4]), ([5, 3], [3, 5]), ([3, 6], [3, 6]), ([7, 3], [7]), ([8], [8]), ([9, 8], [8, 9]), ([10, 8], [8, 10]), ([8, 11], [8, 11]), ([12, 8], [12]), ([13], [13]), ([13], [13]), ([14, 15, 13, 13], [13, 14, 15]), ([13], [13]), ([17, 13], [13, 17]), ([16, 18, 13], [13, 16, 18]), ([13, 19], [13, 19]), ([20, 16, 0, 1, 2, 3, 4, 5, 6, 7, 8, 9, 10, 11, 12, 13, 14, 15, 16, 17, 18, 19, 20], [20])])
def skiarealaw14_DriveTargets.B13 : List Nat := [0, 1, 3, 7, 15, 31, 63, 127, 255, 511, 1023, 2047, 4095, 8191, 16383, 16383, 65535, 16383, 147455, 524287, 1048575, 2097151]
theorem skiarealaw14_DriveTargets.tab13 : rtab .any (opsOf Try.f7 13) = skiarealaw14_DriveTargets.T13 := by kernel_rfl
theorem skiarealaw14_DriveTargets.bits13 : waitsOk skiarealaw14_DriveTargets.T13.2 skiarealaw14_DriveTargets.B13 = true := by kernel_rfl
set_option maxHeartbeats 8000000 in
set_option maxRecDepth 100000 in
theorem skiarealaw14_DriveTargets.calls (k : Nat) (a0_0 : Int) (a0_1 : Int) (a0_2 : Int) (a0_3 : Int) (a1_0 : Int) (a1_1 : Int) (a1_2 : Int) (a1_3 : Int) (r : Bool) (w : World) (h : skiarealaw14_DriveTargets.f k a0_0 a0_1 a0_2 a0_3 a1_0 a1_1 a1_2 a1_3 = some r) :
  Calls Try.prog 7 #[.agg #[.int .i64 a0_0, .int .i64 a0_1, .int .i64 a0_2, .int .i64 a0_3], .agg #[.int .i64 a1_0, .int .i64 a1_1, .int .i64 a1_2, .int .i64 a1_3]] w fun e w' => e = .returned (.bool r) ∧ Below w.heap.size w w' := by
 have hu23 := Try.underlying23
 have hu25 := Try.underlying25
 have HB := Aside0.mk (Below.refl w.heap.size w)
 have H : ((skiarealaw14_alive.f k).bind fun t314 => (if t314 = true then ((skiarealaw14_valid.f k a0_0 a0_1 a0_2 a0_3 a1_0 a1_1 a1_2 a1_3).bind fun t315 => (if t315 = true then ((drive_Step.f k a0_0 a0_1 a0_2 a0_3 a1_0 a1_1 a1_2 a1_3 1).bind fun bt316 => (if a1_0 = 1 then (if bt316.1 = 1 then (if bt316.2.2.1 = a1_2 then (if (mx (wrap64 (bt316.2.1 - bt316.2.2.1)) (wrap64 (bt316.2.2.1 - bt316.2.1))) > (mx (wrap64 (a1_1 - a1_2)) (wrap64 (a1_2 - a1_1))) then (none) else (if (mx (wrap64 (bt316.2.1 - bt316.2.2.1)) (wrap64 (bt316.2.2.1 - bt316.2.1))) = (mx (wrap64 (a1_1 - a1_2)) (wrap64 (a1_2 - a1_1))) then (if (mx (wrap64 (a1_1 - a1_2)) (wrap64 (a1_2 - a1_1))) = 0 then (if ((decide (bt316.2.1 < bt316.2.2.1)) != (decide (a1_1 < a1_2))) = true then (skiarealaw14_DriveTargets.j0 k ((mx (wrap64 (bt316.2.1 - bt316.2.2.1)) (wrap64 (bt316.2.2.1 - bt316.2.1))) != 0) a0_0 a0_1 a0_2 a0_3 a1_0 a1_1 a1_2 a1_3 bt316.1 bt316.2.1 bt316.2.2.1 bt316.2.2.2) else (skiarealaw14_DriveTargets.j0 k false a0_0 a0_1 a0_2 a0_3 a1_0 a1_1 a1_2 a1_3 bt316.1 bt316.2.1 bt316.2.2.1 bt316.2.2.2)) else (none)) else (if ((decide (bt316.2.1 < bt316.2.2.1)) != (decide (a1_1 < a1_2))) = true then (skiarealaw14_DriveTargets.j0 k ((mx (wrap64 (bt316.2.1 - bt316.2.2.1)) (wrap64 (bt316.2.2.1 - bt316.2.1))) != 0) a0_0 a0_1 a0_2 a0_3 a1_0 a1_1 a1_2 a1_3 bt316.1 bt316.2.1 bt316.2.2.1 bt316.2.2.2) else (skiarealaw14_DriveTargets.j0 k false a0_0 a0_1 a0_2 a0_3 a1_0 a1_1 a1_2 a1_3 bt316.1 bt316.2.1 bt316.2.2.1 bt316.2.2.2)))) else (none)) else (none)) else (skiarealaw14_DriveTargets.j0 k false a0_0 a0_1 a0_2 a0_3 a1_0 a1_1 a1_2 a1_3 bt316.1 bt316.2.1 bt316.2.2.1 bt316.2.2.2))) else (some true))) else (none))) = some r := h
 clear h
 replace H := Option.bind_eq_some_iff.mp H
 obtain ⟨t314, A30, H⟩ := H
 replace H : (if t314 = true then ((skiarealaw14_valid.f k a0_0 a0_1 a0_2 a0_3 a1_0 a1_1 a1_2 a1_3).bind fun t315 => (if t315 = true then ((drive_Step.f k a0_0 a0_1 a0_2 a0_3 a1_0 a1_1 a1_2 a1_3 1).bind fun bt316 => (if a1_0 = 1 then (if bt316.1 = 1 then (if bt316.2.2.1 = a1_2 then (if (mx (wrap64 (bt316.2.1 - bt316.2.2.1)) (wrap64 (bt316.2.2.1 - bt316.2.1))) > (mx (wrap64 (a1_1 - a1_2)) (wrap64 (a1_2 - a1_1))) then (none) else (if (mx (wrap64 (bt316.2.1 - bt316.2.2.1)) (wrap64 (bt316.2.2.1 - bt316.2.1))) = (mx (wrap64 (a1_1 - a1_2)) (wrap64 (a1_2 - a1_1))) then (if (mx (wrap64 (a1_1 - a1_2)) (wrap64 (a1_2 - a1_1))) = 0 then (if ((decide (bt316.2.1 < bt316.2.2.1)) != (decide (a1_1 < a1_2))) = true then (skiarealaw14_DriveTargets.j0 k ((mx (wrap64 (bt316.2.1 - bt316.2.2.1)) (wrap64 (bt316.2.2.1 - bt316.2.1))) != 0) a0_0 a0_1 a0_2 a0_3 a1_0 a1_1 a1_2 a1_3 bt316.1 bt316.2.1 bt316.2.2.1 bt316.2.2.2) else (skiarealaw14_DriveTargets.j0 k false a0_0 a0_1 a0_2 a0_3 a1_0 a1_1 a1_2 a1_3 bt316.1 bt316.2.1 bt316.2.2.1 bt316.2.2.2)) else (none)) else (if ((decide (bt316.2.1 < bt316.2.2.1)) != (decide (a1_1 < a1_2))) = true then (skiarealaw14_DriveTargets.j0 k ((mx (wrap64 (bt316.2.1 - bt316.2.2.1)) (wrap64 (bt316.2.2.1 - bt316.2.1))) != 0) a0_0 a0_1 a0_2 a0_3 a1_0 a1_1 a1_2 a1_3 bt316.1 bt316.2.1 bt316.2.2.1 bt316.2.2.2) else (skiarealaw14_DriveTargets.j0 k false a0_0 a0_1 a0_2 a0_3 a1_0 a1_1 a1_2 a1_3 bt316.1 bt316.2.1 bt316.2.2.1 bt316.2.2.2)))) else (none)) else (none)) else (skiarealaw14_DriveTargets.j0 k false a0_0 a0_1 a0_2 a0_3 a1_0 a1_1 a1_2 a1_3 bt316.1 bt316.2.1 bt316.2.2.1 bt316.2.2.2))) else (some true))) else (none)) = some r := H
 have A3 := Aside0.mk A30
 clear A30
 by_cases c4 : t314 = true
 ·subst c4
  have H1 : ((skiarealaw14_valid.f k a0_0 a0_1 a0_2 a0_3 a1_0 a1_1 a1_2 a1_3).bind fun t315 => (if t315 = true then ((drive_Step.f k a0_0 a0_1 a0_2 a0_3 a1_0 a1_1 a1_2 a1_3 1).bind fun bt316 => (if a1_0 = 1 then (if bt316.1 = 1 then (if bt316.2.2.1 = a1_2 then (if (mx (wrap64 (bt316.2.1 - bt316.2.2.1)) (wrap64 (bt316.2.2.1 - bt316.2.1))) > (mx (wrap64 (a1_1 - a1_2)) (wrap64 (a1_2 - a1_1))) then (none) else (if (mx (wrap64 (bt316.2.1 - bt316.2.2.1)) (wrap64 (bt316.2.2.1 - bt316.2.1))) = (mx (wrap64 (a1_1 - a1_2)) (wrap64 (a1_2 - a1_1))) then (if (mx (wrap64 (a1_1 - a1_2)) (wrap64 (a1_2 - a1_1))) = 0 then (if ((decide (bt316.2.1 < bt316.2.2.1)) != (decide (a1_1 < a1_2))) = true then (skiarealaw14_DriveTargets.j0 k ((mx (wrap64 (bt316.2.1 - bt316.2.2.1)) (wrap64 (bt316.2.2.1 - bt316.2.1))) != 0) a0_0 a0_1 a0_2 a0_3 a1_0 a1_1 a1_2 a1_3 bt316.1 bt316.2.1 bt316.2.2.1 bt316.2.2.2) else (skiarealaw14_DriveTargets.j0 k false a0_0 a0_1 a0_2 a0_3 a1_0 a1_1 a1_2 a1_3 bt316.1 bt316.2.1 bt316.2.2.1 bt316.2.2.2)) else (none)) else (if ((decide (bt316.2.1 < bt316.2.2.1)) != (decide (a1_1 < a1_2))) = true then (skiarealaw14_DriveTargets.j0 k ((mx (wrap64 (bt316.2.1 - bt316.2.2.1)) (wrap64 (bt316.2.2.1 - bt316.2.1))) != 0) a0_0 a0_1 a0_2 a0_3 a1_0 a1_1 a1_2 a1_3 bt316.1 bt316.2.1 bt316.2.2.1 bt316.2.2.2) else (skiarealaw14_DriveTargets.j0 k false a0_0 a0_1 a0_2 a0_3 a1_0 a1_1 a1_2 a1_3 bt316.1 bt316.2.1 bt316.2.2.1 bt316.2.2.2)))) else (none)) else (none)) else (skiarealaw14_DriveTargets.j0 k false a0_0 a0_1 a0_2 a0_3 a1_0 a1_1 a1_2 a1_3 bt316.1 bt316.2.1 bt316.2.2.1 bt316.2.2.2))) else (some true))) = some r := by rw [if_pos rfl] at H; exact H
  clear H
  have H := H1
  clear H1
  replace H := Option.bind_eq_some_iff.mp H
  obtain ⟨t315, A50, H⟩ := H
  replace H : (if t315 = true then ((drive_Step.f k a0_0 a0_1 a0_2 a0_3 a1_0 a1_1 a1_2 a1_3 1).bind fun bt316 => (if a1_0 = 1 then (if bt316.1 = 1 then (if bt316.2.2.1 = a1_2 then (if (mx (wrap64 (bt316.2.1 - bt316.2.2.1)) (wrap64 (bt316.2.2.1 - bt316.2.1))) > (mx (wrap64 (a1_1 - a1_2)) (wrap64 (a1_2 - a1_1))) then (none) else (if (mx (wrap64 (bt316.2.1 - bt316.2.2.1)) (wrap64 (bt316.2.2.1 - bt316.2.1))) = (mx (wrap64 (a1_1 - a1_2)) (wrap64 (a1_2 - a1_1))) then (if (mx (wrap64 (a1_1 - a1_2)) (wrap64 (a1_2 - a1_1))) = 0 then (if ((decide (bt316.2.1 < bt316.2.2.1)) != (decide (a1_1 < a1_2))) = true then (skiarealaw14_DriveTargets.j0 k ((mx (wrap64 (bt316.2.1 - bt316.2.2.1)) (wrap64 (bt316.2.2.1 - bt316.2.1))) != 0) a0_0 a0_1 a0_2 a0_3 a1_0 a1_1 a1_2 a1_3 bt316.1 bt316.2.1 bt316.2.2.1 bt316.2.2.2) else (skiarealaw14_DriveTargets.j0 k false a0_0 a0_1 a0_2 a0_3 a1_0 a1_1 a1_2 a1_3 bt316.1 bt316.2.1 bt316.2.2.1 bt316.2.2.2)) else (none)) else (if ((decide (bt316.2.1 < bt316.2.2.1)) != (decide (a1_1 < a1_2))) = true then (skiarealaw14_DriveTargets.j0 k ((mx (wrap64 (bt316.2.1 - bt316.2.2.1)) (wrap64 (bt316.2.2.1 - bt316.2.1))) != 0) a0_0 a0_1 a0_2 a0_3 a1_0 a1_1 a1_2 a1_3 bt316.1 bt316.2.1 bt316.2.2.1 bt316.2.2.2) else (skiarealaw14_DriveTargets.j0 k false a0_0 a0_1 a0_2 a0_3 a1_0 a1_1 a1_2 a1_3 bt316.1 bt316.2.1 bt316.2.2.1 bt316.2.2.2)))) else (none)) else (none)) else (skiarealaw14_DriveTargets.j0 k false a0_0 a0_1 a0_2 a0_3 a1_0 a1_1 a1_2 a1_3 bt316.1 bt316.2.1 bt316.2.2.1 bt316.2.2.2))) else (some true)) = some r := H
  have A5 := Aside0.mk A50
  clear A50
  by_cases c6 : t315 = true
  ·subst c6
   have H1 : ((drive_Step.f k a0_0 a0_1 a0_2 a0_3 a1_0 a1_1 a1_2 a1_3 1).bind fun bt316 => (if a1_0 = 1 then (if bt316.1 = 1 then (if bt316.2.2.1 = a1_2 then (if (mx (wrap64 (bt316.2.1 - bt316.2.2.1)) (wrap64 (bt316.2.2.1 - bt316.2.1))) > (mx (wrap64 (a1_1 - a1_2)) (wrap64 (a1_2 - a1_1))) then (none) else (if (mx (wrap64 (bt316.2.1 - bt316.2.2.1)) (wrap64 (bt316.2.2.1 - bt316.2.1))) = (mx (wrap64 (a1_1 - a1_2)) (wrap64 (a1_2 - a1_1))) then (if (mx (wrap64 (a1_1 - a1_2)) (wrap64 (a1_2 - a1_1))) = 0 then (if ((decide (bt316.2.1 < bt316.2.2.1)) != (decide (a1_1 < a1_2))) = true then (skiarealaw14_DriveTargets.j0 k ((mx (wrap64 (bt316.2.1 - bt316.2.2.1)) (wrap64 (bt316.2.2.1 - bt316.2.1))) != 0) a0_0 a0_1 a0_2 a0_3 a1_0 a1_1 a1_2 a1_3 bt316.1 bt316.2.1 bt316.2.2.1 bt316.2.2.2) else (skiarealaw14_DriveTargets.j0 k false a0_0 a0_1 a0_2 a0_3 a1_0 a1_1 a1_2 a1_3 bt316.1 bt316.2.1 bt316.2.2.1 bt316.2.2.2)) else (none)) else (if ((decide (bt316.2.1 < bt316.2.2.1)) != (decide (a1_1 < a1_2))) = true then (skiarealaw14_DriveTargets.j0 k ((mx (wrap64 (bt316.2.1 - bt316.2.2.1)) (wrap64 (bt316.2.2.1 - bt316.2.1))) != 0) a0_0 a0_1 a0_2 a0_3 a1_0 a1_1 a1_2 a1_3 bt316.1 bt316.2.1 bt316.2.2.1 bt316.2.2.2) else (skiarealaw14_DriveTargets.j0 k false a0_0 a0_1 a0_2 a0_3 a1_0 a1_1 a1_2 a1_3 bt316.1 bt316.2.1 bt316.2.2.1 bt316.2.2.2)))) else (none)) else (none)) else (skiarealaw14_DriveTargets.j0 k false a0_0 a0_1 a0_2 a0_3 a1_0 a1_1 a1_2 a1_3 bt316.1 bt316.2.1 bt316.2.2.1 bt316.2.2.2))) = some r := by rw [if_pos rfl] at H; exact H
   clear H
   have H := H1
   clear H1
   replace H := Option.bind_eq_some_iff.mp H
   obtain ⟨⟨t316, t317, t318, t319⟩, A70, H⟩ := H
   replace H : (if a1_0 = 1 then (if t316 = 1 then (if t318 = a1_2 then (if (mx (wrap64 (t317 - t318)) (wrap64 (t318 - t317))) > (mx (wrap64 (a1_1 - a1_2)) (wrap64 (a1_2 - a1_1))) then (none) else (if (mx (wrap64 (t317 - t318)) (wrap64 (t318 - t317))) = (mx (wrap64 (a1_1 - a1_2)) (wrap64 (a1_2 - a1_1))) then (if (mx (wrap64 (a1_1 - a1_2)) (wrap64 (a1_2 - a1_1))) = 0 then (if ((decide (t317 < t318)) != (decide (a1_1 < a1_2))) = true then (skiarealaw14_DriveTargets.j0 k ((mx (wrap64 (t317 - t318)) (wrap64 (t318 - t317))) != 0) a0_0 a0_1 a0_2 a0_3 a1_0 a1_1 a1_2 a1_3 t316 t317 t318 t319) else (skiarealaw14_DriveTargets.j0 k false a0_0 a0_1 a0_2 a0_3 a1_0 a1_1 a1_2 a1_3 t316 t317 t318 t319)) else (none)) else (if ((decide (t317 < t318)) != (decide (a1_1 < a1_2))) = true then (skiarealaw14_DriveTargets.j0 k ((mx (wrap64 (t317 - t318)) (wrap64 (t318 - t317))) != 0) a0_0 a0_1 a0_2 a0_3 a1_0 a1_1 a1_2 a1_3 t316 t317 t318 t319) else (skiarealaw14_DriveTargets.j0 k false a0_0 a0_1 a0_2 a0_3 a1_0 a1_1 a1_2 a1_3 t316 t317 t318 t319)))) else (none)) else (none)) else (skiarealaw14_DriveTargets.j0 k false a0_0 a0_1 a0_2 a0_3 a1_0 a1_1 a1_2 a1_3 t316 t317 t318 t319)) = some r := H
   have A7 := Aside0.mk A70
   clear A70
   obtain ⟨ji8, hji8⟩ : ∃ j_ : Int, (mx (wrap64 (a1_1 - a1_2)) (wrap64 (a1_2 - a1_1))) = j_ := ⟨_, rfl⟩
   replace H : (if a1_0 = 1 then (if t316 = 1 then (if t318 = a1_2 then (if (mx (wrap64 (t317 - t318)) (wrap64 (t318 - t317))) > (ji8) then (none) else (if (mx (wrap64 (t317 - t318)) (wrap64 (t318 - t317))) = (ji8) then (if (ji8) = 0 then (if ((decide (t317 < t318)) != (decide (a1_1 < a1_2))) = true then (skiarealaw14_DriveTargets.j0 k ((mx (wrap64 (t317 - t318)) (wrap64 (t318 - t317))) != 0) a0_0 a0_1 a0_2 a0_3 a1_0 a1_1 a1_2 a1_3 t316 t317 t318 t319) else (skiarealaw14_DriveTargets.j0 k false a0_0 a0_1 a0_2 a0_3 a1_0 a1_1 a1_2 a1_3 t316 t317 t318 t319)) else (none)) else (if ((decide (t317 < t318)) != (decide (a1_1 < a1_2))) = true then (skiarealaw14_DriveTargets.j0 k ((mx (wrap64 (t317 - t318)) (wrap64 (t318 - t317))) != 0) a0_0 a0_1 a0_2 a0_3 a1_0 a1_1 a1_2 a1_3 t316 t317 t318 t319) else (skiarealaw14_DriveTargets.j0 k false a0_0 a0_1 a0_2 a0_3 a1_0 a1_1 a1_2 a1_3 t316 t317 t318 t319)))) else (none)) else (none)) else (skiarealaw14_DriveTargets.j0 k false a0_0 a0_1 a0_2 a0_3 a1_0 a1_1 a1_2 a1_3 t316 t317 t318 t319)) = some r := by first | (rw [hji8] at H; exact H) | (simp only [hji8] at H ⊢; exact H)
   (try rw [hji8] at A3)
   (try rw [hji8] at A5)
   (try rw [hji8] at A7)
   have hji8_ : (if (wrap64 (a1_1 - a1_2)) < (wrap64 (a1_2 - a1_1)) then (wrap64 (a1_2 - a1_1)) else (wrap64 (a1_1 - a1_2))) = ji8 := hji8
   obtain ⟨ji9, hji9⟩ : ∃ j_ : Int, (mx (wrap64 (t317 - t318)) (wrap64 (t318 - t317))) = j_ := ⟨_, rfl⟩
   replace H : (if a1_0 = 1 then (if t316 = 1 then (if t318 = a1_2 then (if (ji9) > (ji8) then (none) else (if (ji9) = (ji8) then (if (ji8) = 0 then (if ((decide (t317 < t318)) != (decide (a1_1 < a1_2))) = true then (skiarealaw14_DriveTargets.j0 k ((ji9) != 0) a0_0 a0_1 a0_2 a0_3 a1_0 a1_1 a1_2 a1_3 t316 t317 t318 t319) else (skiarealaw14_DriveTargets.j0 k false a0_0 a0_1 a0_2 a0_3 a1_0 a1_1 a1_2 a1_3 t316 t317 t318 t319)) else (none)) else (if ((decide (t317 < t318)) != (decide (a1_1 < a1_2))) = true then (skiarealaw14_DriveTargets.j0 k ((ji9) != 0) a0_0 a0_1 a0_2 a0_3 a1_0 a1_1 a1_2 a1_3 t316 t317 t318 t319) else (skiarealaw14_DriveTargets.j0 k false a0_0 a0_1 a0_2 a0_3 a1_0 a1_1 a1_2 a1_3 t316 t317 t318 t319)))) else (none)) else (none)) else (skiarealaw14_DriveTargets.j0 k false a0_0 a0_1 a0_2 a0_3 a1_0 a1_1 a1_2 a1_3 t316 t317 t318 t319)) = some r := by first | (rw [hji9] at H; exact H) | (simp only [hji9] at H ⊢; exact H)
   (try rw [hji9] at A3)
   (try rw [hji9] at A5)
   (try rw [hji9] at A7)
   have hji9_ : (if (wrap64 (t317 - t318)) < (wrap64 (t318 - t317)) then (wrap64 (t318 - t317)) else (wrap64 (t317 - t318))) = ji9 := hji9
   have HC10 := Aside0.mk H
   clear H
   go_enter Try.func7, Try.ntmps7
   go_upto_region 8 with (first | ((with_reducible refine gate_dst (N := 2) rfl ?_); refine box_event ?hg (N := 2) ?hd (cs := #[.int .i64 a0_0, .int .i64 a0_1, .int .i64 a0_2, .int .i64 a0_3]) (t := 23) ?hr ?_; (case hd => rfl); (case hg => rfl); (case hr => first | (go_simp; done) | (go_simp; rfl)); intro gb312 hg w11 hbox hb; have n0_ := Aside0.mk (below_step (by repeat (first | (with_reducible first | exact HB.out | apply below_alloc | apply pw_below_drewN | apply below_drew1) | exact HB.out)) hb); have n1_ := Aside0.mk (hbox); have n2_ := Aside0.mk ((by rw [hg]; exact (below_size (by repeat (first | (with_reducible first | exact HB.out | apply below_alloc | apply pw_below_drewN | apply below_drew1) | exact HB.out))) : w.heap.size ≤ gb312)); have n3_ := Aside0.mk ((by rw [hg]; exact (below_size (by repeat (first | (with_reducible first | exact HB.out | apply below_alloc | apply pw_below_drewN | apply below_drew1) | exact HB.out))) : w.heap.size ≤ gb312)); clear HB; have HB := n0_; have BK312 := n1_; have GW312 := n2_; have GE312 := n3_; clear n0_ n1_ n2_ n3_; clear hb hbox hg) | ((with_reducible refine gate_dst (N := 3) rfl ?_); refine box_event ?hg (N := 3) ?hd (cs := #[.int .i64 a1_0, .int .i64 a1_1, .int .i64 a1_2, .int .i64 a1_3]) (t := 25) ?hr ?_; (case hd => rfl); (case hg => rfl); (case hr => first | (go_simp; done) | (go_simp; rfl)); intro gb313 hg w12 hbox hb; have n0_ := Aside0.mk (bb_ BK312.out hb); have n1_ := Aside0.mk (below_step (by repeat (first | (with_reducible first | exact HB.out | apply below_alloc | apply pw_below_drewN | apply below_drew1 | refine below_set ?_ GE312.out) | exact HB.out)) hb); have n2_ := Aside0.mk (hbox); have n3_ := Aside0.mk ((by rw [hg]; exact (below_size (by repeat (first | (with_reducible first | exact HB.out | apply below_alloc | apply pw_below_drewN | apply below_drew1 | refine below_set ?_ GE312.out) | exact HB.out))) : w.heap.size ≤ gb313)); have n4_ := Aside0.mk ((by rw [hg]; exact (below_size (by repeat (first | (with_reducible first | exact HB.out | apply below_alloc | apply pw_below_drewN | apply below_drew1 | refine below_set ?_ GE312.out) | exact HB.out))) : w.heap.size ≤ gb313)); have n5_ := Aside0.mk ((by rw [hg]; exact Nat.ne_of_lt (blk_lt (g := gb312) (o := .cells #[.int .i64 a0_0, .int .i64 a0_1, .int .i64 a0_2, .int .i64 a0_3] 23 (0, 0)) (by (with_reducible repeat (first | refine blk_drewN ?_ _ | refine blk_drew ?_ | refine blk_alloc ?_ _)); exact BK312.out)) : gb312 ≠ gb313)); have n6_ := Aside0.mk ((by rw [hg]; exact Nat.ne_of_gt (blk_lt (g := gb312) (o := .cells #[.int .i64 a0_0, .int .i64 a0_1, .int .i64 a0_2, .int .i64 a0_3] 23 (0, 0)) (by (with_reducible repeat (first | refine blk_drewN ?_ _ | refine blk_drew ?_ | refine blk_alloc ?_ _)); exact BK312.out)) : gb313 ≠ gb312)); clear BK312; clear HB; have BK312 := n0_; have HB := n1_; have BK313 := n2_; have GW313 := n3_; have GE313 := n4_; have NB312_313 := n5_; have NB313_312 := n6_; clear n0_ n1_ n2_ n3_ n4_ n5_ n6_; clear hb hbox hg) | ((with_reducible refine gate_callee (f := 10) rfl ?_); refine goesL_ (some 9) rfl rfl Try.func10 (by kernel_rfl) rfl #[] rfl (by (try simp only [List.map_toArray, List.map_cons, List.map_nil]); first | done | rfl | (simp only [List.length_drop, List.length_take]; rfl)) ?_; (with_reducible refine (skiarealaw14_alive.calls k  true _ A3.out).mono ?_); rintro e w13 ⟨rfl, hb⟩; refine ⟨_, rfl, ?_⟩; have n0_ := Aside0.mk (bb_ BK312.out hb); have n1_ := Aside0.mk (bb_ BK313.out hb); have n2_ := Aside0.mk (below_step (by repeat (first | (with_reducible first | exact HB.out | apply below_alloc | apply pw_below_drewN | apply below_drew1 | refine below_set ?_ GE312.out | refine below_set ?_ GE313.out) | exact HB.out)) hb); clear BK312; clear BK313; clear HB; have BK312 := n0_; have BK313 := n1_; have HB := n2_; clear n0_ n1_ n2_; (try clear hb); (try clear hb2); (try clear hk); (try clear hi); have hnb14 := NB312_313.out; have hnc14 := NB313_312.out; have hcz15_0 : w13.cell? ⟨gb312, 0, none⟩ = some (.int .i64 a0_0) := (blk_cell BK312.out 0).trans rfl; have hcz15_1 : w13.cell? ⟨gb312, 1, none⟩ = some (.int .i64 a0_1) := (blk_cell BK312.out 1).trans rfl; have hcz15_2 : w13.cell? ⟨gb312, 2, none⟩ = some (.int .i64 a0_2) := (blk_cell BK312.out 2).trans rfl; have hcz15_3 : w13.cell? ⟨gb312, 3, none⟩ = some (.int .i64 a0_3) := (blk_cell BK312.out 3).trans rfl; have hfz15_0 := blk_frozen BK312.out 0; have hfz15_1 := blk_frozen BK312.out 1; have hfz15_2 := blk_frozen BK312.out 2; have hfz15_3 := blk_frozen BK312.out 3; have hcz16_0 : w13.cell? ⟨gb313, 0, none⟩ = some (.int .i64 a1_0) := (blk_cell BK313.out 0).trans rfl; have hcz16_1 : w13.cell? ⟨gb313, 1, none⟩ = some (.int .i64 a1_1) := (blk_cell BK313.out 1).trans rfl; have hcz16_2 : w13.cell? ⟨gb313, 2, none⟩ = some (.int .i64 a1_2) := (blk_cell BK313.out 2).trans rfl; have hcz16_3 : w13.cell? ⟨gb313, 3, none⟩ = some (.int .i64 a1_3) := (blk_cell BK313.out 3).trans rfl; have hfz16_0 := blk_frozen BK313.out 0; have hfz16_1 := blk_frozen BK313.out 1; have hfz16_2 := blk_frozen BK313.out 2; have hfz16_3 := blk_frozen BK313.out 3) | ((with_reducible refine gate_callee (f := 15) rfl ?_); refine goesL_ (some 13) rfl rfl Try.func15 (by kernel_rfl) rfl #[.agg #[.int .i64 a0_0, .int .i64 a0_1, .int .i64 a0_2, .int .i64 a0_3], .agg #[.int .i64 a1_0, .int .i64 a1_1, .int .i64 a1_2, .int .i64 a1_3]] rfl (by (try simp only [List.map_toArray, List.map_cons, List.map_nil]); first | done | rfl | (simp only [List.length_drop, List.length_take]; rfl)) ?_; (with_reducible refine (skiarealaw14_valid.calls k a0_0 a0_1 a0_2 a0_3 a1_0 a1_1 a1_2 a1_3 true _ A5.out).mono ?_); rintro e w17 ⟨rfl, hb⟩; refine ⟨_, rfl, ?_⟩; have n0_ := Aside0.mk (bb_ BK312.out hb); have n1_ := Aside0.mk (bb_ BK313.out hb); have n2_ := Aside0.mk (below_step (by repeat (first | (with_reducible first | exact HB.out | apply below_alloc | apply pw_below_drewN | apply below_drew1 | refine below_set ?_ GE312.out | refine below_set ?_ GE313.out) | exact HB.out)) hb); clear BK312; clear BK313; clear HB; have BK312 := n0_; have BK313 := n1_; have HB := n2_; clear n0_ n1_ n2_; (try clear hb); (try clear hb2); (try clear hk); (try clear hi); have hcz18_0 : w17.cell? ⟨gb312, 0, none⟩ = some (.int .i64 a0_0) := (blk_cell BK312.out 0).trans rfl; have hcz18_1 : w17.cell? ⟨gb312, 1, none⟩ = some (.int .i64 a0_1) := (blk_cell BK312.out 1).trans rfl; have hcz18_2 : w17.cell? ⟨gb312, 2, none⟩ = some (.int .i64 a0_2) := (blk_cell BK312.out 2).trans rfl; have hcz18_3 : w17.cell? ⟨gb312, 3, none⟩ = some (.int .i64 a0_3) := (blk_cell BK312.out 3).trans rfl; have hfz18_0 := blk_frozen BK312.out 0; have hfz18_1 := blk_frozen BK312.out 1; have hfz18_2 := blk_frozen BK312.out 2; have hfz18_3 := blk_frozen BK312.out 3; have hcz19_0 : w17.cell? ⟨gb313, 0, none⟩ = some (.int .i64 a1_0) := (blk_cell BK313.out 0).trans rfl; have hcz19_1 : w17.cell? ⟨gb313, 1, none⟩ = some (.int .i64 a1_1) := (blk_cell BK313.out 1).trans rfl; have hcz19_2 : w17.cell? ⟨gb313, 2, none⟩ = some (.int .i64 a1_2) := (blk_cell BK313.out 2).trans rfl; have hcz19_3 : w17.cell? ⟨gb313, 3, none⟩ = some (.int .i64 a1_3) := (blk_cell BK313.out 3).trans rfl; have hfz19_0 := blk_frozen BK313.out 0; have hfz19_1 := blk_frozen BK313.out 1; have hfz19_2 := blk_frozen BK313.out 2; have hfz19_3 := blk_frozen BK313.out 3) | ((with_reducible refine gate_callee (f := 24) rfl ?_); refine goesL_ (some 17) rfl rfl Try.func24 (by kernel_rfl) rfl #[.agg #[.int .i64 a0_0, .int .i64 a0_1, .int .i64 a0_2, .int .i64 a0_3], .agg #[.int .i64 a1_0, .int .i64 a1_1, .int .i64 a1_2, .int .i64 a1_3], .int .i64 1] rfl (by (try simp only [List.map_toArray, List.map_cons, List.map_nil]); first | done | rfl | (simp only [List.length_drop, List.length_take]; rfl)) ?_; (with_reducible refine (drive_Step.calls k a0_0 a0_1 a0_2 a0_3 a1_0 a1_1 a1_2 a1_3 1 t316 t317 t318 t319 _ A7.out).mono ?_); rintro e w20 ⟨rfl, hb⟩; refine ⟨_, rfl, ?_⟩; have n0_ := Aside0.mk (bb_ BK312.out hb); have n1_ := Aside0.mk (bb_ BK313.out hb); have n2_ := Aside0.mk (below_step (by repeat (first | (with_reducible first | exact HB.out | apply below_alloc | apply pw_below_drewN | apply below_drew1 | refine below_set ?_ GE312.out | refine below_set ?_ GE313.out) | exact HB.out)) hb); clear BK312; clear BK313; clear HB; have BK312 := n0_; have BK313 := n1_; have HB := n2_; clear n0_ n1_ n2_; (try clear hb); (try clear hb2); (try clear hk); (try clear hi)) | ((with_reducible refine gate_dst (N := 5) rfl ?_); refine box_event ?hg (N := 5) ?hd (cs := #[.int .i64 0, .int .i64 0, .int .i64 0, .int .i64 0]) (t := 25) ?hr ?_; (case hd => rfl); (case hg => rfl); (case hr => first | (go_simp; done) | (go_simp; rfl)); intro gb320 hg w21 hbox hb; have n0_ := Aside0.mk (bb_ BK312.out hb); have n1_ := Aside0.mk (bb_ BK313.out hb); have n2_ := Aside0.mk (below_step (by repeat (first | (with_reducible first | exact HB.out | apply below_alloc | apply pw_below_drewN | apply below_drew1 | refine below_set ?_ GE312.out | refine below_set ?_ GE313.out) | exact HB.out)) hb); have n3_ := Aside0.mk (hbox); have n4_ := Aside0.mk ((by rw [hg]; exact (below_size (by repeat (first | (with_reducible first | exact HB.out | apply below_alloc | apply pw_below_drewN | apply below_drew1 | refine below_set ?_ GE312.out | refine below_set ?_ GE313.out) | exact HB.out))) : w.heap.size ≤ gb320)); have n5_ := Aside0.mk ((by rw [hg]; exact (below_size (by repeat (first | (with_reducible first | exact HB.out | apply below_alloc | apply pw_below_drewN | apply below_drew1 | refine below_set ?_ GE312.out | refine below_set ?_ GE313.out) | exact HB.out))) : w.heap.size ≤ gb320)); have n6_ := Aside0.mk ((by rw [hg]; exact Nat.ne_of_lt (blk_lt (g := gb312) (o := .cells #[.int .i64 a0_0, .int .i64 a0_1, .int .i64 a0_2, .int .i64 a0_3] 23 (0, 0)) (by (with_reducible repeat (first | refine blk_drewN ?_ _ | refine blk_drew ?_ | refine blk_alloc ?_ _)); exact BK312.out)) : gb312 ≠ gb320)); have n7_ := Aside0.mk ((by rw [hg]; exact Nat.ne_of_gt (blk_lt (g := gb312) (o := .cells #[.int .i64 a0_0, .int .i64 a0_1, .int .i64 a0_2, .int .i64 a0_3] 23 (0, 0)) (by (with_reducible repeat (first | refine blk_drewN ?_ _ | refine blk_drew ?_ | refine blk_alloc ?_ _)); exact BK312.out)) : gb320 ≠ gb312)); have n8_ := Aside0.mk ((by rw [hg]; exact Nat.ne_of_lt (blk_lt (g := gb313) (o := .cells #[.int .i64 a1_0, .int .i64 a1_1, .int .i64 a1_2, .int .i64 a1_3] 25 (0, 0)) (by (with_reducible repeat (first | refine blk_drewN ?_ _ | refine blk_drew ?_ | refine blk_alloc ?_ _)); exact BK313.out)) : gb313 ≠ gb320)); have n9_ := Aside0.mk ((by rw [hg]; exact Nat.ne_of_gt (blk_lt (g := gb313) (o := .cells #[.int .i64 a1_0, .int .i64 a1_1, .int .i64 a1_2, .int .i64 a1_3] 25 (0, 0)) (by (with_reducible repeat (first | refine blk_drewN ?_ _ | refine blk_drew ?_ | refine blk_alloc ?_ _)); exact BK313.out)) : gb320 ≠ gb313)); clear BK312; clear BK313; clear HB; have BK312 := n0_; have BK313 := n1_; have HB := n2_; have BK320 := n3_; have GW320 := n4_; have GE320 := n5_; have NB312_320 := n6_; have NB320_312 := n7_; have NB313_320 := n8_; have NB320_313 := n9_; clear n0_ n1_ n2_ n3_ n4_ n5_ n6_ n7_ n8_ n9_; clear hb hbox hg; have hnb22 := NB320_312.out; have hnc22 := NB312_320.out; have hnb23 := NB320_313.out; have hnc23 := NB313_320.out; have hcz24_0 : w21.cell? ⟨gb320, 0, none⟩ = some (.int .i64 0) := (blk_cell BK320.out 0).trans rfl; have hcz24_1 : w21.cell? ⟨gb320, 1, none⟩ = some (.int .i64 0) := (blk_cell BK320.out 1).trans rfl; have hcz24_2 : w21.cell? ⟨gb320, 2, none⟩ = some (.int .i64 0) := (blk_cell BK320.out 2).trans rfl; have hcz24_3 : w21.cell? ⟨gb320, 3, none⟩ = some (.int .i64 0) := (blk_cell BK320.out 3).trans rfl; have hfz24_0 := blk_frozen BK320.out 0; have hfz24_1 := blk_frozen BK320.out 1; have hfz24_2 := blk_frozen BK320.out 2; have hfz24_3 := blk_frozen BK320.out 3; have hcz25_0 : w21.cell? ⟨gb313, 0, none⟩ = some (.int .i64 a1_0) := (blk_cell BK313.out 0).trans rfl; have hcz25_1 : w21.cell? ⟨gb313, 1, none⟩ = some (.int .i64 a1_1) := (blk_cell BK313.out 1).trans rfl; have hcz25_2 : w21.cell? ⟨gb313, 2, none⟩ = some (.int .i64 a1_2) := (blk_cell BK313.out 2).trans rfl; have hcz25_3 : w21.cell? ⟨gb313, 3, none⟩ = some (.int .i64 a1_3) := (blk_cell BK313.out 3).trans rfl; have hfz25_0 := blk_frozen BK313.out 0; have hfz25_1 := blk_frozen BK313.out 1; have hfz25_2 := blk_frozen BK313.out 2; have hfz25_3 := blk_frozen BK313.out 3))
   (try simp only [Act.put, List.setIfInBounds_toArray, List.set_cons_zero, List.set_cons_succ])
   go_cut [85] (fun v85 wc => ∃ (kq : Nat) (x85_9 : Bool), v85 = .bool x85_9 ∧ Aside0 (skiarealaw14_DriveTargets.j0 kq x85_9 a0_0 a0_1 a0_2 a0_3 a1_0 a1_1 a1_2 a1_3 t316 t317 t318 t319 = some r) ∧ Aside0 (kq ≤ k) ∧ Aside0 (wc.heap[gb312]? = some (.cells #[.int .i64 a0_0, .int .i64 a0_1, .int .i64 a0_2, .int .i64 a0_3] 23 (0, 0))) ∧ Aside0 (wc.heap[gb313]? = some (.cells #[.int .i64 a1_0, .int .i64 a1_1, .int .i64 a1_2, .int .i64 a1_3] 25 (0, 0))) ∧ Aside0 (wc.heap[gb320]? = some (.cells #[.int .i64 t316, .int .i64 t317, .int .i64 t318, .int .i64 t319] 25 (0, 0))) ∧ Aside0 (Below w.heap.size w wc))
   case first =>
    have H := HC10.out
    clear HC10
    by_cases c26 : a1_0 = 1
    ·rw [if_pos c26] at H
     have c26b0 : (a1_0 == 1) = true := beq_iff_eq.mpr c26
     have c26b1 : (a1_0 != 1) = false := bne_eq_false_iff_eq.mpr c26
     clear c26
     (first | rw [c26b0] | (simp only [i64_w, i32_w]; rw [c26b0]) | skip)
     by_cases c27 : t316 = 1
     ·rw [if_pos c27] at H
      have c27b0 : (t316 == 1) = true := beq_iff_eq.mpr c27
      have c27b1 : (t316 != 1) = false := bne_eq_false_iff_eq.mpr c27
      clear c27
      by_cases c28 : t318 = a1_2
      ·rw [if_pos c28] at H
       have c28b0 : (t318 == a1_2) = true := beq_iff_eq.mpr c28
       have c28b1 : (t318 != a1_2) = false := bne_eq_false_iff_eq.mpr c28
       clear c28
       by_cases c29 : (ji9) > (ji8)
       ·rw [if_pos c29] at H
        exact absurd H (by simp)
       ·rw [if_neg c29] at H
        have c29b0 : decide ((ji8) < (ji9)) = false := decide_eq_false c29
        clear c29
        by_cases c30 : (ji9) = (ji8)
        ·rw [if_pos c30] at H
         have c30b0 : ((ji9) == (ji8)) = true := beq_iff_eq.mpr c30
         have c30b1 : ((ji9) != (ji8)) = false := bne_eq_false_iff_eq.mpr c30
         clear c30
         by_cases c31 : (ji8) = 0
         ·rw [if_pos c31] at H
          have c31b0 : ((ji8) == 0) = true := beq_iff_eq.mpr c31
          have c31b1 : ((ji8) != 0) = false := bne_eq_false_iff_eq.mpr c31
          clear c31
          by_cases c32 : ((decide (t317 < t318)) != (decide (a1_1 < a1_2))) = true
          ·rw [if_pos c32] at H
           have c32b0 : ((decide (t317 < t318)) != (decide (a1_1 < a1_2))) = true := c32
           (try (have c32b1 : decide ((decide (t317 < t318)) = (decide (a1_1 < a1_2))) = false := by simpa using c32))
           (try (have c32b2 : ((decide (t317 < t318)) == (decide (a1_1 < a1_2))) = false := by simpa using c32))
           (try (have c32b3 : ¬ ((decide (t317 < t318)) = (decide (a1_1 < a1_2))) := by simpa using c32))
           clear c32
           have H' := Aside0.mk H
           clear H
           have hnb33 := NB313_312.out
           have hnc33 := NB312_313.out
           have hnb34 := NB313_320.out
           have hnc34 := NB320_313.out
           have hcz35_0 : w21.cell? ⟨gb313, 0, none⟩ = some (.int .i64 a1_0) := (blk_cell BK313.out 0).trans rfl
           have hcz35_1 : w21.cell? ⟨gb313, 1, none⟩ = some (.int .i64 a1_1) := (blk_cell BK313.out 1).trans rfl
           have hcz35_2 : w21.cell? ⟨gb313, 2, none⟩ = some (.int .i64 a1_2) := (blk_cell BK313.out 2).trans rfl
           have hcz35_3 : w21.cell? ⟨gb313, 3, none⟩ = some (.int .i64 a1_3) := (blk_cell BK313.out 3).trans rfl
           have hfz35_0 := blk_frozen BK313.out 0
           have hfz35_1 := blk_frozen BK313.out 1
           have hfz35_2 := blk_frozen BK313.out 2
           have hfz35_3 := blk_frozen BK313.out 3
           have hnb36 := NB320_312.out
           have hnc36 := NB312_320.out
           have hcz37_0 : w21.cell? ⟨gb320, 0, none⟩ = some (.int .i64 0) := (blk_cell BK320.out 0).trans rfl
           have hcz37_1 : w21.cell? ⟨gb320, 1, none⟩ = some (.int .i64 0) := (blk_cell BK320.out 1).trans rfl
           have hcz37_2 : w21.cell? ⟨gb320, 2, none⟩ = some (.int .i64 0) := (blk_cell BK320.out 2).trans rfl
           have hcz37_3 : w21.cell? ⟨gb320, 3, none⟩ = some (.int .i64 0) := (blk_cell BK320.out 3).trans rfl
           have hfz37_0 := blk_frozen BK320.out 0
           have hfz37_1 := blk_frozen BK320.out 1
           have hfz37_2 := blk_frozen BK320.out 2
           have hfz37_3 := blk_frozen BK320.out 3
           go_wp2
           go_meet
           case rel => exact ⟨_, (((ji9) != 0)), (by first | rfl | (simp; done) | (simp only [← hji9] <;> (first | rfl | simp)) | (simp [*]; done)), H', ⟨by first | omega | exact Nat.le_refl _⟩, ⟨by (with_reducible repeat (first | refine blk_drewN ?_ _ | refine blk_drew ?_ | refine blk_alloc ?_ _)); refine blk_far ?_ NB312_320.out _; (with_reducible repeat (first | refine blk_drewN ?_ _ | refine blk_drew ?_ | refine blk_alloc ?_ _)); refine blk_far ?_ NB312_320.out _; (with_reducible repeat (first | refine blk_drewN ?_ _ | refine blk_drew ?_ | refine blk_alloc ?_ _)); refine blk_far ?_ NB312_320.out _; (with_reducible repeat (first | refine blk_drewN ?_ _ | refine blk_drew ?_ | refine blk_alloc ?_ _)); refine blk_far ?_ NB312_320.out _; (with_reducible repeat (first | refine blk_drewN ?_ _ | refine blk_drew ?_ | refine blk_alloc ?_ _)); exact BK312.out⟩, ⟨by (with_reducible repeat (first | refine blk_drewN ?_ _ | refine blk_drew ?_ | refine blk_alloc ?_ _)); refine blk_far ?_ NB313_320.out _; (with_reducible repeat (first | refine blk_drewN ?_ _ | refine blk_drew ?_ | refine blk_alloc ?_ _)); refine blk_far ?_ NB313_320.out _; (with_reducible repeat (first | refine blk_drewN ?_ _ | refine blk_drew ?_ | refine blk_alloc ?_ _)); refine blk_far ?_ NB313_320.out _; (with_reducible repeat (first | refine blk_drewN ?_ _ | refine blk_drew ?_ | refine blk_alloc ?_ _)); refine blk_far ?_ NB313_320.out _; (with_reducible repeat (first | refine blk_drewN ?_ _ | refine blk_drew ?_ | refine blk_alloc ?_ _)); exact BK313.out⟩, ⟨by (with_reducible repeat (first | refine blk_drewN ?_ _ | refine blk_drew ?_ | refine blk_alloc ?_ _)); refine blk_put (cs := #[.int .i64 t316, .int .i64 t317, .int .i64 t318, .int .i64 0]) ?_ 3 _ rfl; (with_reducible repeat (first | refine blk_drewN ?_ _ | refine blk_drew ?_ | refine blk_alloc ?_ _)); refine blk_put (cs := #[.int .i64 t316, .int .i64 t317, .int .i64 0, .int .i64 0]) ?_ 2 _ rfl; (with_reducible repeat (first | refine blk_drewN ?_ _ | refine blk_drew ?_ | refine blk_alloc ?_ _)); refine blk_put (cs := #[.int .i64 t316, .int .i64 0, .int .i64 0, .int .i64 0]) ?_ 1 _ rfl; (with_reducible repeat (first | refine blk_drewN ?_ _ | refine blk_drew ?_ | refine blk_alloc ?_ _)); refine blk_put (cs := #[.int .i64 0, .int .i64 0, .int .i64 0, .int .i64 0]) ?_ 0 _ rfl; (with_reducible repeat (first | refine blk_drewN ?_ _ | refine blk_drew ?_ | refine blk_alloc ?_ _)); exact BK320.out⟩, ⟨by repeat (first | (with_reducible first | exact HB.out | apply below_alloc | apply pw_below_drewN | apply below_drew1 | refine below_set ?_ GE312.out | refine below_set ?_ GE313.out | refine below_set ?_ GE320.out) | exact HB.out)⟩⟩
          ·rw [if_neg c32] at H
           have c32b0 : ((decide (t317 < t318)) != (decide (a1_1 < a1_2))) = false := by simpa using c32
           (try (have c32b1 : decide ((decide (t317 < t318)) = (decide (a1_1 < a1_2))) = true := by simpa using c32))
           (try (have c32b2 : ((decide (t317 < t318)) == (decide (a1_1 < a1_2))) = true := by simpa using c32))
           clear c32
           have H' := Aside0.mk H
           clear H
           have hnb38 := NB313_312.out
           have hnc38 := NB312_313.out
           have hnb39 := NB313_320.out
           have hnc39 := NB320_313.out
           have hcz40_0 : w21.cell? ⟨gb313, 0, none⟩ = some (.int .i64 a1_0) := (blk_cell BK313.out 0).trans rfl
           have hcz40_1 : w21.cell? ⟨gb313, 1, none⟩ = some (.int .i64 a1_1) := (blk_cell BK313.out 1).trans rfl
           have hcz40_2 : w21.cell? ⟨gb313, 2, none⟩ = some (.int .i64 a1_2) := (blk_cell BK313.out 2).trans rfl
           have hcz40_3 : w21.cell? ⟨gb313, 3, none⟩ = some (.int .i64 a1_3) := (blk_cell BK313.out 3).trans rfl
           have hfz40_0 := blk_frozen BK313.out 0
           have hfz40_1 := blk_frozen BK313.out 1
           have hfz40_2 := blk_frozen BK313.out 2
           have hfz40_3 := blk_frozen BK313.out 3
           have hnb41 := NB320_312.out
           have hnc41 := NB312_320.out
           have hcz42_0 : w21.cell? ⟨gb320, 0, none⟩ = some (.int .i64 0) := (blk_cell BK320.out 0).trans rfl
           have hcz42_1 : w21.cell? ⟨gb320, 1, none⟩ = some (.int .i64 0) := (blk_cell BK320.out 1).trans rfl
           have hcz42_2 : w21.cell? ⟨gb320, 2, none⟩ = some (.int .i64 0) := (blk_cell BK320.out 2).trans rfl
           have hcz42_3 : w21.cell? ⟨gb320, 3, none⟩ = some (.int .i64 0) := (blk_cell BK320.out 3).trans rfl
           have hfz42_0 := blk_frozen BK320.out 0
           have hfz42_1 := blk_frozen BK320.out 1
           have hfz42_2 := blk_frozen BK320.out 2
           have hfz42_3 := blk_frozen BK320.out 3
           go_wp2
           go_meet
           case rel => exact ⟨_, (false), (by first | rfl | (simp; done) | (simp [*]; done)), H', ⟨by first | omega | exact Nat.le_refl _⟩, ⟨by (with_reducible repeat (first | refine blk_drewN ?_ _ | refine blk_drew ?_ | refine blk_alloc ?_ _)); refine blk_far ?_ NB312_320.out _; (with_reducible repeat (first | refine blk_drewN ?_ _ | refine blk_drew ?_ | refine blk_alloc ?_ _)); refine blk_far ?_ NB312_320.out _; (with_reducible repeat (first | refine blk_drewN ?_ _ | refine blk_drew ?_ | refine blk_alloc ?_ _)); refine blk_far ?_ NB312_320.out _; (with_reducible repeat (first | refine blk_drewN ?_ _ | refine blk_drew ?_ | refine blk_alloc ?_ _)); refine blk_far ?_ NB312_320.out _; (with_reducible repeat (first | refine blk_drewN ?_ _ | refine blk_drew ?_ | refine blk_alloc ?_ _)); exact BK312.out⟩, ⟨by (with_reducible repeat (first | refine blk_drewN ?_ _ | refine blk_drew ?_ | refine blk_alloc ?_ _)); refine blk_far ?_ NB313_320.out _; (with_reducible repeat (first | refine blk_drewN ?_ _ | refine blk_drew ?_ | refine blk_alloc ?_ _)); refine blk_far ?_ NB313_320.out _; (with_reducible repeat (first | refine blk_drewN ?_ _ | refine blk_drew ?_ | refine blk_alloc ?_ _)); refine blk_far ?_ NB313_320.out _; (with_reducible repeat (first | refine blk_drewN ?_ _ | refine blk_drew ?_ | refine blk_alloc ?_ _)); refine blk_far ?_ NB313_320.out _; (with_reducible repeat (first | refine blk_drewN ?_ _ | refine blk_drew ?_ | refine blk_alloc ?_ _)); exact BK313.out⟩, ⟨by (with_reducible repeat (first | refine blk_drewN ?_ _ | refine blk_drew ?_ | refine blk_alloc ?_ _)); refine blk_put (cs := #[.int .i64 t316, .int .i64 t317, .int .i64 t318, .int .i64 0]) ?_ 3 _ rfl; (with_reducible repeat (first | refine blk_drewN ?_ _ | refine blk_drew ?_ | refine blk_alloc ?_ _)); refine blk_put (cs := #[.int .i64 t316, .int .i64 t317, .int .i64 0, .int .i64 0]) ?_ 2 _ rfl; (with_reducible repeat (first | refine blk_drewN ?_ _ | refine blk_drew ?_ | refine blk_alloc ?_ _)); refine blk_put (cs := #[.int .i64 t316, .int .i64 0, .int .i64 0, .int .i64 0]) ?_ 1 _ rfl; (with_reducible repeat (first | refine blk_drewN ?_ _ | refine blk_drew ?_ | refine blk_alloc ?_ _)); refine blk_put (cs := #[.int .i64 0, .int .i64 0, .int .i64 0, .int .i64 0]) ?_ 0 _ rfl; (with_reducible repeat (first | refine blk_drewN ?_ _ | refine blk_drew ?_ | refine blk_alloc ?_ _)); exact BK320.out⟩, ⟨by repeat (first | (with_reducible first | exact HB.out | apply below_alloc | apply pw_below_drewN | apply below_drew1 | refine below_set ?_ GE312.out | refine below_set ?_ GE313.out | refine below_set ?_ GE320.out) | exact HB.out)⟩⟩
         ·rw [if_neg c31] at H
          exact absurd H (by simp)
        ·rw [if_neg c30] at H
         have c30b0 : ((ji9) == (ji8)) = false := beq_eq_false_iff_ne.mpr c30
         have c30b1 : ((ji9) != (ji8)) = true := bne_iff_ne.mpr c30
         by_cases c43 : ((decide (t317 < t318)) != (decide (a1_1 < a1_2))) = true
         ·rw [if_pos c43] at H
          have c43b0 : ((decide (t317 < t318)) != (decide (a1_1 < a1_2))) = true := c43
          (try (have c43b1 : decide ((decide (t317 < t318)) = (decide (a1_1 < a1_2))) = false := by simpa using c43))
          (try (have c43b2 : ((decide (t317 < t318)) == (decide (a1_1 < a1_2))) = false := by simpa using c43))
          (try (have c43b3 : ¬ ((decide (t317 < t318)) = (decide (a1_1 < a1_2))) := by simpa using c43))
          clear c43
          have H' := Aside0.mk H
          clear H
          have hnb44 := NB313_312.out
          have hnc44 := NB312_313.out
          have hnb45 := NB313_320.out
          have hnc45 := NB320_313.out
          have hcz46_0 : w21.cell? ⟨gb313, 0, none⟩ = some (.int .i64 a1_0) := (blk_cell BK313.out 0).trans rfl
          have hcz46_1 : w21.cell? ⟨gb313, 1, none⟩ = some (.int .i64 a1_1) := (blk_cell BK313.out 1).trans rfl
          have hcz46_2 : w21.cell? ⟨gb313, 2, none⟩ = some (.int .i64 a1_2) := (blk_cell BK313.out 2).trans rfl
          have hcz46_3 : w21.cell? ⟨gb313, 3, none⟩ = some (.int .i64 a1_3) := (blk_cell BK313.out 3).trans rfl
          have hfz46_0 := blk_frozen BK313.out 0
          have hfz46_1 := blk_frozen BK313.out 1
          have hfz46_2 := blk_frozen BK313.out 2
          have hfz46_3 := blk_frozen BK313.out 3
          have hnb47 := NB320_312.out
          have hnc47 := NB312_320.out
          have hcz48_0 : w21.cell? ⟨gb320, 0, none⟩ = some (.int .i64 0) := (blk_cell BK320.out 0).trans rfl
          have hcz48_1 : w21.cell? ⟨gb320, 1, none⟩ = some (.int .i64 0) := (blk_cell BK320.out 1).trans rfl
          have hcz48_2 : w21.cell? ⟨gb320, 2, none⟩ = some (.int .i64 0) := (blk_cell BK320.out 2).trans rfl
          have hcz48_3 : w21.cell? ⟨gb320, 3, none⟩ = some (.int .i64 0) := (blk_cell BK320.out 3).trans rfl
          have hfz48_0 := blk_frozen BK320.out 0
          have hfz48_1 := blk_frozen BK320.out 1
          have hfz48_2 := blk_frozen BK320.out 2
          have hfz48_3 := blk_frozen BK320.out 3
          go_wp2
          go_meet
          case rel => exact ⟨_, (((ji9) != 0)), (by first | rfl | (simp; done) | (simp only [← hji9] <;> (first | rfl | simp)) | (simp [*]; done)), H', ⟨by first | omega | exact Nat.le_refl _⟩, ⟨by (with_reducible repeat (first | refine blk_drewN ?_ _ | refine blk_drew ?_ | refine blk_alloc ?_ _)); refine blk_far ?_ NB312_320.out _; (with_reducible repeat (first | refine blk_drewN ?_ _ | refine blk_drew ?_ | refine blk_alloc ?_ _)); refine blk_far ?_ NB312_320.out _; (with_reducible repeat (first | refine blk_drewN ?_ _ | refine blk_drew ?_ | refine blk_alloc ?_ _)); refine blk_far ?_ NB312_320.out _; (with_reducible repeat (first | refine blk_drewN ?_ _ | refine blk_drew ?_ | refine blk_alloc ?_ _)); refine blk_far ?_ NB312_320.out _; (with_reducible repeat (first | refine blk_drewN ?_ _ | refine blk_drew ?_ | refine blk_alloc ?_ _)); exact BK312.out⟩, ⟨by (with_reducible repeat (first | refine blk_drewN ?_ _ | refine blk_drew ?_ | refine blk_alloc ?_ _)); refine blk_far ?_ NB313_320.out _; (with_reducible repeat (first | refine blk_drewN ?_ _ | refine blk_drew ?_ | refine blk_alloc ?_ _)); refine blk_far ?_ NB313_320.out _; (with_reducible repeat (first | refine blk_drewN ?_ _ | refine blk_drew ?_ | refine blk_alloc ?_ _)); refine blk_far ?_ NB313_320.out _; (with_reducible repeat (first | refine blk_drewN ?_ _ | refine blk_drew ?_ | refine blk_alloc ?_ _)); refine blk_far ?_ NB313_320.out _; (with_reducible repeat (first | refine blk_drewN ?_ _ | refine blk_drew ?_ | refine blk_alloc ?_ _)); exact BK313.out⟩, ⟨by (with_reducible repeat (first | refine blk_drewN ?_ _ | refine blk_drew ?_ | refine blk_alloc ?_ _)); refine blk_put (cs := #[.int .i64 t316, .int .i64 t317, .int .i64 t318, .int .i64 0]) ?_ 3 _ rfl; (with_reducible repeat (first | refine blk_drewN ?_ _ | refine blk_drew ?_ | refine blk_alloc ?_ _)); refine blk_put (cs := #[.int .i64 t316, .int .i64 t317, .int .i64 0, .int .i64 0]) ?_ 2 _ rfl; (with_reducible repeat (first | refine blk_drewN ?_ _ | refine blk_drew ?_ | refine blk_alloc ?_ _)); refine blk_put (cs := #[.int .i64 t316, .int .i64 0, .int .i64 0, .int .i64 0]) ?_ 1 _ rfl; (with_reducible repeat (first | refine blk_drewN ?_ _ | refine blk_drew ?_ | refine blk_alloc ?_ _)); refine blk_put (cs := #[.int .i64 0, .int .i64 0, .int .i64 0, .int .i64 0]) ?_ 0 _ rfl; (with_reducible repeat (first | refine blk_drewN ?_ _ | refine blk_drew ?_ | refine blk_alloc ?_ _)); exact BK320.out⟩, ⟨by repeat (first | (with_reducible first | exact HB.out | apply below_alloc | apply pw_below_drewN | apply below_drew1 | refine below_set ?_ GE312.out | refine below_set ?_ GE313.out | refine below_set ?_ GE320.out) | exact HB.out)⟩⟩
         ·rw [if_neg c43] at H
          have c43b0 : ((decide (t317 < t318)) != (decide (a1_1 < a1_2))) = false := by simpa using c43
          (try (have c43b1 : decide ((decide (t317 < t318)) = (decide (a1_1 < a1_2))) = true := by simpa using c43))
          (try (have c43b2 : ((decide (t317 < t318)) == (decide (a1_1 < a1_2))) = true := by simpa using c43))
          clear c43
          have H' := Aside0.mk H
          clear H
          have hnb49 := NB313_312.out
          have hnc49 := NB312_313.out
          have hnb50 := NB313_320.out
          have hnc50 := NB320_313.out
          have hcz51_0 : w21.cell? ⟨gb313, 0, none⟩ = some (.int .i64 a1_0) := (blk_cell BK313.out 0).trans rfl
          have hcz51_1 : w21.cell? ⟨gb313, 1, none⟩ = some (.int .i64 a1_1) := (blk_cell BK313.out 1).trans rfl
          have hcz51_2 : w21.cell? ⟨gb313, 2, none⟩ = some (.int .i64 a1_2) := (blk_cell BK313.out 2).trans rfl
          have hcz51_3 : w21.cell? ⟨gb313, 3, none⟩ = some (.int .i64 a1_3) := (blk_cell BK313.out 3).trans rfl
          have hfz51_0 := blk_frozen BK313.out 0
          have hfz51_1 := blk_frozen BK313.out 1
          have hfz51_2 := blk_frozen BK313.out 2
          have hfz51_3 := blk_frozen BK313.out 3
          have hnb52 := NB320_312.out
          have hnc52 := NB312_320.out
          have hcz53_0 : w21.cell? ⟨gb320, 0, none⟩ = some (.int .i64 0) := (blk_cell BK320.out 0).trans rfl
          have hcz53_1 : w21.cell? ⟨gb320, 1, none⟩ = some (.int .i64 0) := (blk_cell BK320.out 1).trans rfl
          have hcz53_2 : w21.cell? ⟨gb320, 2, none⟩ = some (.int .i64 0) := (blk_cell BK320.out 2).trans rfl
          have hcz53_3 : w21.cell? ⟨gb320, 3, none⟩ = some (.int .i64 0) := (blk_cell BK320.out 3).trans rfl
          have hfz53_0 := blk_frozen BK320.out 0
          have hfz53_1 := blk_frozen BK320.out 1
          have hfz53_2 := blk_frozen BK320.out 2
          have hfz53_3 := blk_frozen BK320.out 3
          go_wp2
          go_meet
          case rel => exact ⟨_, (false), (by first | rfl | (simp; done) | (simp [*]; done)), H', ⟨by first | omega | exact Nat.le_refl _⟩, ⟨by (with_reducible repeat (first | refine blk_drewN ?_ _ | refine blk_drew ?_ | refine blk_alloc ?_ _)); refine blk_far ?_ NB312_320.out _; (with_reducible repeat (first | refine blk_drewN ?_ _ | refine blk_drew ?_ | refine blk_alloc ?_ _)); refine blk_far ?_ NB312_320.out _; (with_reducible repeat (first | refine blk_drewN ?_ _ | refine blk_drew ?_ | refine blk_alloc ?_ _)); refine blk_far ?_ NB312_320.out _; (with_reducible repeat (first | refine blk_drewN ?_ _ | refine blk_drew ?_ | refine blk_alloc ?_ _)); refine blk_far ?_ NB312_320.out _; (with_reducible repeat (first | refine blk_drewN ?_ _ | refine blk_drew ?_ | refine blk_alloc ?_ _)); exact BK312.out⟩, ⟨by (with_reducible repeat (first | refine blk_drewN ?_ _ | refine blk_drew ?_ | refine blk_alloc ?_ _)); refine blk_far ?_ NB313_320.out _; (with_reducible repeat (first | refine blk_drewN ?_ _ | refine blk_drew ?_ | refine blk_alloc ?_ _)); refine blk_far ?_ NB313_320.out _; (with_reducible repeat (first | refine blk_drewN ?_ _ | refine blk_drew ?_ | refine blk_alloc ?_ _)); refine blk_far ?_ NB313_320.out _; (with_reducible repeat (first | refine blk_drewN ?_ _ | refine blk_drew ?_ | refine blk_alloc ?_ _)); refine blk_far ?_ NB313_320.out _; (with_reducible repeat (first | refine blk_drewN ?_ _ | refine blk_drew ?_ | refine blk_alloc ?_ _)); exact BK313.out⟩, ⟨by (with_reducible repeat (first | refine blk_drewN ?_ _ | refine blk_drew ?_ | refine blk_alloc ?_ _)); refine blk_put (cs := #[.int .i64 t316, .int .i64 t317, .int .i64 t318, .int .i64 0]) ?_ 3 _ rfl; (with_reducible repeat (first | refine blk_drewN ?_ _ | refine blk_drew ?_ | refine blk_alloc ?_ _)); refine blk_put (cs := #[.int .i64 t316, .int .i64 t317, .int .i64 0, .int .i64 0]) ?_ 2 _ rfl; (with_reducible repeat (first | refine blk_drewN ?_ _ | refine blk_drew ?_ | refine blk_alloc ?_ _)); refine blk_put (cs := #[.int .i64 t316, .int .i64 0, .int .i64 0, .int .i64 0]) ?_ 1 _ rfl; (with_reducible repeat (first | refine blk_drewN ?_ _ | refine blk_drew ?_ | refine blk_alloc ?_ _)); refine blk_put (cs := #[.int .i64 0, .int .i64 0, .int .i64 0, .int .i64 0]) ?_ 0 _ rfl; (with_reducible repeat (first | refine blk_drewN ?_ _ | refine blk_drew ?_ | refine blk_alloc ?_ _)); exact BK320.out⟩, ⟨by repeat (first | (with_reducible first | exact HB.out | apply below_alloc | apply pw_below_drewN | apply below_drew1 | refine below_set ?_ GE312.out | refine below_set ?_ GE313.out | refine below_set ?_ GE320.out) | exact HB.out)⟩⟩
      ·rw [if_neg c28] at H
       exact absurd H (by simp)
     ·rw [if_neg c27] at H
      exact absurd H (by simp)
    ·rw [if_neg c26] at H
     have c26b0 : (a1_0 == 1) = false := beq_eq_false_iff_ne.mpr c26
     have c26b1 : (a1_0 != 1) = true := bne_iff_ne.mpr c26
     (first | rw [c26b0] | (simp only [i64_w, i32_w]; rw [c26b0]) | skip)
     have H' := Aside0.mk H
     clear H
     have hnb54 := NB313_312.out
     have hnc54 := NB312_313.out
     have hnb55 := NB313_320.out
     have hnc55 := NB320_313.out
     have hcz56_0 : w21.cell? ⟨gb313, 0, none⟩ = some (.int .i64 a1_0) := (blk_cell BK313.out 0).trans rfl
     have hcz56_1 : w21.cell? ⟨gb313, 1, none⟩ = some (.int .i64 a1_1) := (blk_cell BK313.out 1).trans rfl
     have hcz56_2 : w21.cell? ⟨gb313, 2, none⟩ = some (.int .i64 a1_2) := (blk_cell BK313.out 2).trans rfl
     have hcz56_3 : w21.cell? ⟨gb313, 3, none⟩ = some (.int .i64 a1_3) := (blk_cell BK313.out 3).trans rfl
     have hfz56_0 := blk_frozen BK313.out 0
     have hfz56_1 := blk_frozen BK313.out 1
     have hfz56_2 := blk_frozen BK313.out 2
     have hfz56_3 := blk_frozen BK313.out 3
     go_wp2
     go_meet
     case rel => exact ⟨_, (false), (by first | rfl | (simp; done) | (simp [*]; done)), H', ⟨by first | omega | exact Nat.le_refl _⟩, ⟨by (with_reducible repeat (first | refine blk_drewN ?_ _ | refine blk_drew ?_ | refine blk_alloc ?_ _)); refine blk_far ?_ NB312_320.out _; (with_reducible repeat (first | refine blk_drewN ?_ _ | refine blk_drew ?_ | refine blk_alloc ?_ _)); refine blk_far ?_ NB312_320.out _; (with_reducible repeat (first | refine blk_drewN ?_ _ | refine blk_drew ?_ | refine blk_alloc ?_ _)); refine blk_far ?_ NB312_320.out _; (with_reducible repeat (first | refine blk_drewN ?_ _ | refine blk_drew ?_ | refine blk_alloc ?_ _)); refine blk_far ?_ NB312_320.out _; (with_reducible repeat (first | refine blk_drewN ?_ _ | refine blk_drew ?_ | refine blk_alloc ?_ _)); exact BK312.out⟩, ⟨by (with_reducible repeat (first | refine blk_drewN ?_ _ | refine blk_drew ?_ | refine blk_alloc ?_ _)); refine blk_far ?_ NB313_320.out _; (with_reducible repeat (first | refine blk_drewN ?_ _ | refine blk_drew ?_ | refine blk_alloc ?_ _)); refine blk_far ?_ NB313_320.out _; (with_reducible repeat (first | refine blk_drewN ?_ _ | refine blk_drew ?_ | refine blk_alloc ?_ _)); refine blk_far ?_ NB313_320.out _; (with_reducible repeat (first | refine blk_drewN ?_ _ | refine blk_drew ?_ | refine blk_alloc ?_ _)); refine blk_far ?_ NB313_320.out _; (with_reducible repeat (first | refine blk_drewN ?_ _ | refine blk_drew ?_ | refine blk_alloc ?_ _)); exact BK313.out⟩, ⟨by (with_reducible repeat (first | refine blk_drewN ?_ _ | refine blk_drew ?_ | refine blk_alloc ?_ _)); refine blk_put (cs := #[.int .i64 t316, .int .i64 t317, .int .i64 t318, .int .i64 0]) ?_ 3 _ rfl; (with_reducible repeat (first | refine blk_drewN ?_ _ | refine blk_drew ?_ | refine blk_alloc ?_ _)); refine blk_put (cs := #[.int .i64 t316, .int .i64 t317, .int .i64 0, .int .i64 0]) ?_ 2 _ rfl; (with_reducible repeat (first | refine blk_drewN ?_ _ | refine blk_drew ?_ | refine blk_alloc ?_ _)); refine blk_put (cs := #[.int .i64 t316, .int .i64 0, .int .i64 0, .int .i64 0]) ?_ 1 _ rfl; (with_reducible repeat (first | refine blk_drewN ?_ _ | refine blk_drew ?_ | refine blk_alloc ?_ _)); refine blk_put (cs := #[.int .i64 0, .int .i64 0, .int .i64 0, .int .i64 0]) ?_ 0 _ rfl; (with_reducible repeat (first | refine blk_drewN ?_ _ | refine blk_drew ?_ | refine blk_alloc ?_ _)); exact BK320.out⟩, ⟨by repeat (first | (with_reducible first | exact HB.out | apply below_alloc | apply pw_below_drewN | apply below_drew1 | refine below_set ?_ GE312.out | refine below_set ?_ GE313.out | refine below_set ?_ GE320.out) | exact HB.out)⟩⟩
   case rest =>
    clear HC10
    try clear c1
    try clear c2
    try clear p2
    try clear c3
    try clear c4
    try clear c5
    try clear c6
    try clear p6
    try clear c7
    try clear c10
    try clear c14
    try clear c15
    try clear c22
    try clear c23
    try clear c24
    try clear c26
    try clear c26b0
    try clear c26b1
    try clear c27
    try clear c27b0
    try clear c27b1
    try clear c28
    try clear c28b0
    try clear c28b1
    try clear c29
    try clear c29b0
    try clear c30
    try clear c30b0
    try clear c30b1
    try clear c31
    try clear c31b0
    try clear c31b1
    try clear c32
    try clear c32b0
    try clear c32b1
    try clear c32b2
    try clear c33
    try clear c34
    try clear c36
    try clear c38
    try clear c39
    try clear c41
    try clear c43
    try clear c43b0
    try clear c43b1
    try clear c43b2
    try clear c44
    try clear c45
    try clear c47
    try clear c49
    try clear c50
    try clear c52
    try clear c54
    try clear c55
    try clear hcz15_0
    try clear hcz15_1
    try clear hcz15_2
    try clear hcz15_3
    try clear hcz16_0
    try clear hcz16_1
    try clear hcz16_2
    try clear hcz16_3
    try clear hcz18_0
    try clear hcz18_1
    try clear hcz18_2
    try clear hcz18_3
    try clear hcz19_0
    try clear hcz19_1
    try clear hcz19_2
    try clear hcz19_3
    try clear hcz24_0
    try clear hcz24_1
    try clear hcz24_2
    try clear hcz24_3
    try clear hcz25_0
    try clear hcz25_1
    try clear hcz25_2
    try clear hcz25_3
    try clear hcz35_0
    try clear hcz35_1
    try clear hcz35_2
    try clear hcz35_3
    try clear hcz37_0
    try clear hcz37_1
    try clear hcz37_2
    try clear hcz37_3
    try clear hcz40_0
    try clear hcz40_1
    try clear hcz40_2
    try clear hcz40_3
    try clear hcz42_0
    try clear hcz42_1
    try clear hcz42_2
    try clear hcz42_3
    try clear hcz46_0
    try clear hcz46_1
    try clear hcz46_2
    try clear hcz46_3
    try clear hcz48_0
    try clear hcz48_1
    try clear hcz48_2
    try clear hcz48_3
    try clear hcz51_0
    try clear hcz51_1
    try clear hcz51_2
    try clear hcz51_3
    try clear hcz53_0
    try clear hcz53_1
    try clear hcz53_2
    try clear hcz53_3
    try clear hcz56_0
    try clear hcz56_1
    try clear hcz56_2
    try clear hcz56_3
    try clear hfz15_0
    try clear hfz15_1
    try clear hfz15_2
    try clear hfz15_3
    try clear hfz16_0
    try clear hfz16_1
    try clear hfz16_2
    try clear hfz16_3
    try clear hfz18_0
    try clear hfz18_1
    try clear hfz18_2
    try clear hfz18_3
    try clear hfz19_0
    try clear hfz19_1
    try clear hfz19_2
    try clear hfz19_3
    try clear hfz24_0
    try clear hfz24_1
    try clear hfz24_2
    try clear hfz24_3
    try clear hfz25_0
    try clear hfz25_1
    try clear hfz25_2
    try clear hfz25_3
    try clear hfz35_0
    try clear hfz35_1
    try clear hfz35_2
    try clear hfz35_3
    try clear hfz37_0
    try clear hfz37_1
    try clear hfz37_2
    try clear hfz37_3
    try clear hfz40_0
    try clear hfz40_1
    try clear hfz40_2
    try clear hfz40_3
    try clear hfz42_0
    try clear hfz42_1
    try clear hfz42_2
    try clear hfz42_3
    try clear hfz46_0
    try clear hfz46_1
    try clear hfz46_2
    try clear hfz46_3
    try clear hfz48_0
    try clear hfz48_1
    try clear hfz48_2
    try clear hfz48_3
    try clear hfz51_0
    try clear hfz51_1
    try clear hfz51_2
    try clear hfz51_3
    try clear hfz53_0
    try clear hfz53_1
    try clear hfz53_2
    try clear hfz53_3
    try clear hfz56_0
    try clear hfz56_1
    try clear hfz56_2
    try clear hfz56_3
    obtain ⟨kq, x85_9, rfl, HA, HJ9, BK312, BK313, BK320, HB⟩ := hcut
    cases kq with
    | zero => exact absurd HA.out (by simp [skiarealaw14_DriveTargets.j0])
    | succ kj9 =>
     have H := HA.out
     clear HA
     simp only [skiarealaw14_DriveTargets.j0] at H
     by_cases c57 : x85_9 = true
     ·subst c57
      have H1 : (none) = some r := by rw [if_pos rfl] at H; exact H
      clear H
      have H := H1
      clear H1
      exact absurd H (by simp)
     ·replace c57 := Bool.eq_false_iff.mpr c57
      subst c57
      have H1 : (if a1_0 = 0 then (some (t316 == a1_0 && (t317 == a1_1 && (t318 == a1_2 && (t319 == a1_3))))) else ((drive_Halt.f a0_0 a0_1 a0_2 a0_3 a1_0 a1_1 a1_2 a1_3).bind fun bt321 => ((drive_Step.f kj9 a0_0 a0_1 a0_2 a0_3 bt321.1 bt321.2.1 bt321.2.2.1 bt321.2.2.2 240).bind fun bt325 => (if a1_0 = 3 then (if bt325.2.1 = 0 then ((skiarealaw14_far.f a1_0 a1_1 a1_2 a1_3 t316 t317 t318 t319).bind fun t330 => (some (t330 == t317))) else (none)) else (if bt325.1 = 0 then (if bt325.2.1 = 0 then ((skiarealaw14_far.f a1_0 a1_1 a1_2 a1_3 t316 t317 t318 t319).bind fun t331 => (some (t331 == t317))) else (none)) else (none)))))) = some r := by rw [if_neg (show ¬ (false = true) by decide)] at H; exact H
      clear H
      have H := H1
      clear H1
      by_cases c58 : a1_0 = 0
      ·rw [if_pos c58] at H
       have c58b0 : (a1_0 == 0) = true := beq_iff_eq.mpr c58
       have c58b1 : (a1_0 != 0) = false := bne_eq_false_iff_eq.mpr c58
       clear c58
       obtain rfl := Option.some.inj H
       have hnb59 := NB313_312.out
       have hnc59 := NB312_313.out
       have hnb60 := NB313_320.out
       have hnc60 := NB320_313.out
       have hcz61_0 : wc.cell? ⟨gb313, 0, none⟩ = some (.int .i64 a1_0) := (blk_cell BK313.out 0).trans rfl
       have hcz61_1 : wc.cell? ⟨gb313, 1, none⟩ = some (.int .i64 a1_1) := (blk_cell BK313.out 1).trans rfl
       have hcz61_2 : wc.cell? ⟨gb313, 2, none⟩ = some (.int .i64 a1_2) := (blk_cell BK313.out 2).trans rfl
       have hcz61_3 : wc.cell? ⟨gb313, 3, none⟩ = some (.int .i64 a1_3) := (blk_cell BK313.out 3).trans rfl
       have hfz61_0 := blk_frozen BK313.out 0
       have hfz61_1 := blk_frozen BK313.out 1
       have hfz61_2 := blk_frozen BK313.out 2
       have hfz61_3 := blk_frozen BK313.out 3
       have hnb62 := NB320_312.out
       have hnc62 := NB312_320.out
       have hcz63_0 : wc.cell? ⟨gb320, 0, none⟩ = some (.int .i64 t316) := (blk_cell BK320.out 0).trans rfl
       have hcz63_1 : wc.cell? ⟨gb320, 1, none⟩ = some (.int .i64 t317) := (blk_cell BK320.out 1).trans rfl
       have hcz63_2 : wc.cell? ⟨gb320, 2, none⟩ = some (.int .i64 t318) := (blk_cell BK320.out 2).trans rfl
       have hcz63_3 : wc.cell? ⟨gb320, 3, none⟩ = some (.int .i64 t319) := (blk_cell BK320.out 3).trans rfl
       have hfz63_0 := blk_frozen BK320.out 0
       have hfz63_1 := blk_frozen BK320.out 1
       have hfz63_2 := blk_frozen BK320.out 2
       have hfz63_3 := blk_frozen BK320.out 3
       go_wp2
       go_ret
       exact ⟨by first | rfl | (simp [errW_none, errW_some] <;> rfl) | (simp only [← hji8, ← hji9]; first | rfl | (simp [errW_none, errW_some] <;> rfl)) | (simp [*, errW_none, errW_some] <;> rfl), by repeat (first | (with_reducible first | exact HB.out | apply below_alloc | apply pw_below_drewN | apply below_drew1 | refine below_set ?_ GE312.out | refine below_set ?_ GE313.out | refine below_set ?_ GE320.out) | exact HB.out)⟩
      ·rw [if_neg c58] at H
       have c58b0 : (a1_0 == 0) = false := beq_eq_false_iff_ne.mpr c58
       have c58b1 : (a1_0 != 0) = true := bne_iff_ne.mpr c58
       replace H := Option.bind_eq_some_iff.mp H
       obtain ⟨⟨t321, t322, t323, t324⟩, A640, H⟩ := H
       replace H : ((drive_Step.f kj9 a0_0 a0_1 a0_2 a0_3 t321 t322 t323 t324 240).bind fun bt325 => (if a1_0 = 3 then (if bt325.2.1 = 0 then ((skiarealaw14_far.f a1_0 a1_1 a1_2 a1_3 t316 t317 t318 t319).bind fun t330 => (some (t330 == t317))) else (none)) else (if bt325.1 = 0 then (if bt325.2.1 = 0 then ((skiarealaw14_far.f a1_0 a1_1 a1_2 a1_3 t316 t317 t318 t319).bind fun t331 => (some (t331 == t317))) else (none)) else (none)))) = some r := H
       have A64 := Aside0.mk A640
       clear A640
       replace H := Option.bind_eq_some_iff.mp H
       obtain ⟨⟨t325, t326, t327, t328⟩, A650, H⟩ := H
       replace H : (if a1_0 = 3 then (if t326 = 0 then ((skiarealaw14_far.f a1_0 a1_1 a1_2 a1_3 t316 t317 t318 t319).bind fun t330 => (some (t330 == t317))) else (none)) else (if t325 = 0 then (if t326 = 0 then ((skiarealaw14_far.f a1_0 a1_1 a1_2 a1_3 t316 t317 t318 t319).bind fun t331 => (some (t331 == t317))) else (none)) else (none))) = some r := H
       have A65 := Aside0.mk A650
       clear A650
       by_cases c66 : a1_0 = 3
       ·rw [if_pos c66] at H
        have c66b0 : (a1_0 == 3) = true := beq_iff_eq.mpr c66
        have c66b1 : (a1_0 != 3) = false := bne_eq_false_iff_eq.mpr c66
        clear c66
        by_cases c67 : t326 = 0
        ·rw [if_pos c67] at H
         have c67b0 : (t326 == 0) = true := beq_iff_eq.mpr c67
         have c67b1 : (t326 != 0) = false := bne_eq_false_iff_eq.mpr c67
         clear c67
         replace H := Option.bind_eq_some_iff.mp H
         obtain ⟨t330, A680, H⟩ := H
         replace H : (some (t330 == t317)) = some r := H
         have A68 := Aside0.mk A680
         clear A680
         obtain rfl := Option.some.inj H
         have hnb69 := NB313_312.out
         have hnc69 := NB312_313.out
         have hnb70 := NB313_320.out
         have hnc70 := NB320_313.out
         have hcz71_0 : wc.cell? ⟨gb313, 0, none⟩ = some (.int .i64 a1_0) := (blk_cell BK313.out 0).trans rfl
         have hcz71_1 : wc.cell? ⟨gb313, 1, none⟩ = some (.int .i64 a1_1) := (blk_cell BK313.out 1).trans rfl
         have hcz71_2 : wc.cell? ⟨gb313, 2, none⟩ = some (.int .i64 a1_2) := (blk_cell BK313.out 2).trans rfl
         have hcz71_3 : wc.cell? ⟨gb313, 3, none⟩ = some (.int .i64 a1_3) := (blk_cell BK313.out 3).trans rfl
         have hfz71_0 := blk_frozen BK313.out 0
         have hfz71_1 := blk_frozen BK313.out 1
         have hfz71_2 := blk_frozen BK313.out 2
         have hfz71_3 := blk_frozen BK313.out 3
         try go_wp2
         have n0_ := Aside0.mk (blk_drew BK312.out)
         have n1_ := Aside0.mk (blk_drew BK313.out)
         have n2_ := Aside0.mk (blk_drew BK320.out)
         have n3_ := Aside0.mk (below_drew1 HB.out)
         clear BK312
         clear BK313
         clear BK320
         clear HB
         have BK312 := n0_
         have BK313 := n1_
         have BK320 := n2_
         have HB := n3_
         clear n0_ n1_ n2_ n3_
         refine start_ (n := 7) (S := fun w' => w'.cell? ⟨gb312, 0, none⟩ = some (.int .i64 a0_0) ∧ w'.cell? ⟨gb312, 1, none⟩ = some (.int .i64 a0_1) ∧ w'.cell? ⟨gb312, 2, none⟩ = some (.int .i64 a0_2) ∧ w'.cell? ⟨gb312, 3, none⟩ = some (.int .i64 a0_3) ∧ w'.cell? ⟨gb313, 0, none⟩ = some (.int .i64 a1_0) ∧ w'.cell? ⟨gb313, 1, none⟩ = some (.int .i64 a1_1) ∧ w'.cell? ⟨gb313, 2, none⟩ = some (.int .i64 a1_2) ∧ w'.cell? ⟨gb313, 3, none⟩ = some (.int .i64 a1_3)) (ds := []) #[false, false, false, false, false, false, false] (by kernel_rfl) rfl rfl ⟨(blk_cell BK312.out 0).trans rfl, (blk_cell BK312.out 1).trans rfl, (blk_cell BK312.out 2).trans rfl, (blk_cell BK312.out 3).trans rfl, (blk_cell BK313.out 0).trans rfl, (blk_cell BK313.out 1).trans rfl, (blk_cell BK313.out 2).trans rfl, (blk_cell BK313.out 3).trans rfl⟩ (fun hHeld => ?_)
         generalize wc.drew = w72 at BK312 BK313 BK320 HB hHeld ⊢
         refine take_ (i := 0) (N := some 92) (v := ?_) (a' := ?_) #[true, false, false, false, false, false, false] rfl rfl (by kernel_rfl) (fun _ _ _ h => h) (Or.inl ⟨by rfl, ?_⟩) hHeld ?_ ?_
         rotate_left
         ·rintro w' ⟨s0, s1, s2, s3, s4, s5, s6, s7⟩
          go_simp
          with_reducible rfl
         rotate_left
         ·simp only [Act.put, List.setIfInBounds_toArray, List.set_cons_zero, List.set_cons_succ, i64_w, i32_w]
          rfl
         refine take_ (i := 1) (N := some 93) (v := ?_) (a' := ?_) #[true, true, false, false, false, false, false] rfl rfl (by kernel_rfl) (fun _ _ _ h => h) (Or.inl ⟨by rfl, ?_⟩) hHeld ?_ ?_
         rotate_left
         ·rintro w' ⟨s0, s1, s2, s3, s4, s5, s6, s7⟩
          go_simp
          with_reducible rfl
         rotate_left
         ·simp only [Act.put, List.setIfInBounds_toArray, List.set_cons_zero, List.set_cons_succ, i64_w, i32_w]
          rfl
         refine take_ (i := 2) (N := some 94) (v := ?_) (a' := ?_) #[true, true, true, false, false, false, false] rfl rfl (by kernel_rfl) (fun _ _ _ h => h) (Or.inl ⟨by rfl, ?_⟩) hHeld ?_ ?_
         rotate_left
         ·rintro w' ⟨s0, s1, s2, s3, s4, s5, s6, s7⟩
          go_simp
          with_reducible rfl
         rotate_left
         ·simp only [Act.put, List.setIfInBounds_toArray, List.set_cons_zero, List.set_cons_succ, i64_w, i32_w]
          rfl
         refine join_ (σ := Nat) 1 #[true, true, true, true, true, true, false] (fun s_ => [(95, .agg #[.int .i64 t321, .int .i64 t322, .int .i64 t323, .int .i64 t324]), (96, .agg #[.int .i64 t325, .int .i64 t326, .int .i64 t327, .int .i64 t328]), (8, .pointer (some ⟨s_, 0, none⟩))]) (fun s_ w' => (w'.cell? ⟨gb312, 0, none⟩ = some (.int .i64 a0_0) ∧ w'.cell? ⟨gb312, 1, none⟩ = some (.int .i64 a0_1) ∧ w'.cell? ⟨gb312, 2, none⟩ = some (.int .i64 a0_2) ∧ w'.cell? ⟨gb312, 3, none⟩ = some (.int .i64 a0_3) ∧ w'.cell? ⟨gb313, 0, none⟩ = some (.int .i64 a1_0) ∧ w'.cell? ⟨gb313, 1, none⟩ = some (.int .i64 a1_1) ∧ w'.cell? ⟨gb313, 2, none⟩ = some (.int .i64 a1_2) ∧ w'.cell? ⟨gb313, 3, none⟩ = some (.int .i64 a1_3)) ∧ (w'.heap[gb312]? = some (.cells #[.int .i64 a0_0, .int .i64 a0_1, .int .i64 a0_2, .int .i64 a0_3] 23 (0, 0))) ∧ (w'.heap[gb313]? = some (.cells #[.int .i64 a1_0, .int .i64 a1_1, .int .i64 a1_2, .int .i64 a1_3] 25 (0, 0))) ∧ (w'.heap[gb320]? = some (.cells #[.int .i64 t316, .int .i64 t317, .int .i64 t318, .int .i64 t319] 25 (0, 0))) ∧ (w'.heap[s_]? = some (.cells #[.int .i64 0, .int .i64 0, .int .i64 0, .int .i64 0] 25 (0, 0))) ∧ (w.heap.size ≤ s_) ∧ (w.heap.size ≤ s_) ∧ (gb312 ≠ s_) ∧ (s_ ≠ gb312) ∧ (gb313 ≠ s_) ∧ (s_ ≠ gb313) ∧ (gb320 ≠ s_) ∧ (s_ ≠ gb320) ∧ (Below w.heap.size w w')) ?_ ?_
         rotate_left
         ·intro hCont
          refine two_ (i := 3) (j := 5) (Ni := some 95) (Nj := some 8) #[true, true, true, true, false, false, false] #[true, true, true, false, false, true, false] rfl rfl rfl rfl (by kernel_rfl) (by decide) (by decide) (fun K hK => ?_) (fun K hK => ?_)
          ·skip
           refine goes_ Try.func20 (by kernel_rfl) rfl #[.agg #[.int .i64 a0_0, .int .i64 a0_1, .int .i64 a0_2, .int .i64 a0_3], .agg #[.int .i64 a1_0, .int .i64 a1_1, .int .i64 a1_2, .int .i64 a1_3]] (by rfl) rfl rfl (by (try simp only [List.map_toArray, List.map_cons, List.map_nil]); first | done | rfl | (simp only [List.length_drop, List.length_take]; rfl)) ?_
           with_reducible refine (drive_Halt.calls a0_0 a0_1 a0_2 a0_3 a1_0 a1_1 a1_2 a1_3 t321 t322 t323 t324 _ A64.out).mono ?_
           rintro e w73 ⟨rfl, hb⟩
           refine ⟨_, rfl, ?_⟩
           have n0_ := Aside0.mk (bb_ BK312.out hb)
           have n1_ := Aside0.mk (bb_ BK313.out hb)
           have n2_ := Aside0.mk (bb_ BK320.out hb)
           have n3_ := Aside0.mk (below_step (by repeat (first | (with_reducible first | exact HB.out | apply below_alloc | apply pw_below_drewN | apply below_drew1 | refine below_set ?_ GE312.out | refine below_set ?_ GE313.out | refine below_set ?_ GE320.out) | exact HB.out)) hb)
           clear BK312
           clear BK313
           clear BK320
           clear HB
           have BK312 := n0_
           have BK313 := n1_
           have BK320 := n2_
           have HB := n3_
           clear n0_ n1_ n2_ n3_
           (try clear hb)
           (try clear hb2)
           (try clear hk)
           (try clear hi)
           refine hK.out _ _ ⟨(blk_cell BK312.out 0).trans rfl, (blk_cell BK312.out 1).trans rfl, (blk_cell BK312.out 2).trans rfl, (blk_cell BK312.out 3).trans rfl, (blk_cell BK313.out 0).trans rfl, (blk_cell BK313.out 1).trans rfl, (blk_cell BK313.out 2).trans rfl, (blk_cell BK313.out 3).trans rfl⟩ (fun hHeld => ?_)
           clear hK K
           refine norm_ (a' := ?_) ?_ ?_
           rotate_left
           ·show Act.put _ (some 95) _ = _
            simp only [Act.put, List.setIfInBounds_toArray, List.set_cons_zero, List.set_cons_succ, i64_w, i32_w]
            rfl
           refine two_ (i := 4) (j := 5) (Ni := some 96) (Nj := some 8) #[true, true, true, true, true, false, false] #[true, true, true, true, false, true, false] rfl rfl rfl rfl (by kernel_rfl) (by decide) (by decide) (fun K hK => ?_) (fun K hK => ?_)
           ·skip
            refine goes_ Try.func24 (by kernel_rfl) rfl #[.agg #[.int .i64 a0_0, .int .i64 a0_1, .int .i64 a0_2, .int .i64 a0_3], .agg #[.int .i64 t321, .int .i64 t322, .int .i64 t323, .int .i64 t324], .int .i64 240] (by rfl) rfl rfl (by (try simp only [List.map_toArray, List.map_cons, List.map_nil]); first | done | rfl | (simp only [List.length_drop, List.length_take]; rfl)) ?_
            with_reducible refine (drive_Step.calls kj9 a0_0 a0_1 a0_2 a0_3 t321 t322 t323 t324 240 t325 t326 t327 t328 _ A65.out).mono ?_
            rintro e w74 ⟨rfl, hb⟩
            refine ⟨_, rfl, ?_⟩
            have n0_ := Aside0.mk (bb_ BK312.out hb)
            have n1_ := Aside0.mk (bb_ BK313.out hb)
            have n2_ := Aside0.mk (bb_ BK320.out hb)
            have n3_ := Aside0.mk (below_step (by repeat (first | (with_reducible first | exact HB.out | apply below_alloc | apply pw_below_drewN | apply below_drew1 | refine below_set ?_ GE312.out | refine below_set ?_ GE313.out | refine below_set ?_ GE320.out) | exact HB.out)) hb)
            clear BK312
            clear BK313
            clear BK320
            clear HB
            have BK312 := n0_
            have BK313 := n1_
            have BK320 := n2_
            have HB := n3_
            clear n0_ n1_ n2_ n3_
            (try clear hb)
            (try clear hb2)
            (try clear hk)
            (try clear hi)
            refine hK.out _ _ ⟨(blk_cell BK312.out 0).trans rfl, (blk_cell BK312.out 1).trans rfl, (blk_cell BK312.out 2).trans rfl, (blk_cell BK312.out 3).trans rfl, (blk_cell BK313.out 0).trans rfl, (blk_cell BK313.out 1).trans rfl, (blk_cell BK313.out 2).trans rfl, (blk_cell BK313.out 3).trans rfl⟩ (fun hHeld => ?_)
            clear hK K
            refine norm_ (a' := ?_) ?_ ?_
            rotate_left
            ·show Act.put _ (some 96) _ = _
             simp only [Act.put, List.setIfInBounds_toArray, List.set_cons_zero, List.set_cons_succ, i64_w, i32_w]
             rfl
            refine one_ (i := 5) (N := some 8) #[true, true, true, true, true, true, false] rfl rfl (by kernel_rfl) (by decide) (fun K hK => ?_)
            refine box_step ?hg (N := 8) ?hd (cs := #[.int .i64 0, .int .i64 0, .int .i64 0, .int .i64 0]) (t := 25) ?hr ?_; (case hd => rfl); (case hg => rfl); (case hr => first | (go_simp; done) | (go_simp; rfl))
            intro gb329 hg w75 hbox hb
            have n0_ := Aside0.mk (bb_ BK312.out hb)
            have n1_ := Aside0.mk (bb_ BK313.out hb)
            have n2_ := Aside0.mk (bb_ BK320.out hb)
            have n3_ := Aside0.mk (below_step (by repeat (first | (with_reducible first | exact HB.out | apply below_alloc | apply pw_below_drewN | apply below_drew1 | refine below_set ?_ GE312.out | refine below_set ?_ GE313.out | refine below_set ?_ GE320.out) | exact HB.out)) hb)
            have n4_ := Aside0.mk (hbox)
            have n5_ := Aside0.mk ((by rw [hg]; exact (below_size (by repeat (first | (with_reducible first | exact HB.out | apply below_alloc | apply pw_below_drewN | apply below_drew1 | refine below_set ?_ GE312.out | refine below_set ?_ GE313.out | refine below_set ?_ GE320.out) | exact HB.out))) : w.heap.size ≤ gb329))
            have n6_ := Aside0.mk ((by rw [hg]; exact (below_size (by repeat (first | (with_reducible first | exact HB.out | apply below_alloc | apply pw_below_drewN | apply below_drew1 | refine below_set ?_ GE312.out | refine below_set ?_ GE313.out | refine below_set ?_ GE320.out) | exact HB.out))) : w.heap.size ≤ gb329))
            have n7_ := Aside0.mk ((by rw [hg]; exact Nat.ne_of_lt (blk_lt (g := gb312) (o := .cells #[.int .i64 a0_0, .int .i64 a0_1, .int .i64 a0_2, .int .i64 a0_3] 23 (0, 0)) (by (with_reducible repeat (first | refine blk_drewN ?_ _ | refine blk_drew ?_ | refine blk_alloc ?_ _)); exact BK312.out)) : gb312 ≠ gb329))
            have n8_ := Aside0.mk ((by rw [hg]; exact Nat.ne_of_gt (blk_lt (g := gb312) (o := .cells #[.int .i64 a0_0, .int .i64 a0_1, .int .i64 a0_2, .int .i64 a0_3] 23 (0, 0)) (by (with_reducible repeat (first | refine blk_drewN ?_ _ | refine blk_drew ?_ | refine blk_alloc ?_ _)); exact BK312.out)) : gb329 ≠ gb312))
            have n9_ := Aside0.mk ((by rw [hg]; exact Nat.ne_of_lt (blk_lt (g := gb313) (o := .cells #[.int .i64 a1_0, .int .i64 a1_1, .int .i64 a1_2, .int .i64 a1_3] 25 (0, 0)) (by (with_reducible repeat (first | refine blk_drewN ?_ _ | refine blk_drew ?_ | refine blk_alloc ?_ _)); exact BK313.out)) : gb313 ≠ gb329))
            have n10_ := Aside0.mk ((by rw [hg]; exact Nat.ne_of_gt (blk_lt (g := gb313) (o := .cells #[.int .i64 a1_0, .int .i64 a1_1, .int .i64 a1_2, .int .i64 a1_3] 25 (0, 0)) (by (with_reducible repeat (first | refine blk_drewN ?_ _ | refine blk_drew ?_ | refine blk_alloc ?_ _)); exact BK313.out)) : gb329 ≠ gb313))
            have n11_ := Aside0.mk ((by rw [hg]; exact Nat.ne_of_lt (blk_lt (g := gb320) (o := .cells #[.int .i64 t316, .int .i64 t317, .int .i64 t318, .int .i64 t319] 25 (0, 0)) (by (with_reducible repeat (first | refine blk_drewN ?_ _ | refine blk_drew ?_ | refine blk_alloc ?_ _)); exact BK320.out)) : gb320 ≠ gb329))
            have n12_ := Aside0.mk ((by rw [hg]; exact Nat.ne_of_gt (blk_lt (g := gb320) (o := .cells #[.int .i64 t316, .int .i64 t317, .int .i64 t318, .int .i64 t319] 25 (0, 0)) (by (with_reducible repeat (first | refine blk_drewN ?_ _ | refine blk_drew ?_ | refine blk_alloc ?_ _)); exact BK320.out)) : gb329 ≠ gb320))
            clear BK312
            clear BK313
            clear BK320
            clear HB
            have BK312 := n0_
            have BK313 := n1_
            have BK320 := n2_
            have HB := n3_
            have BK329 := n4_
            have GW329 := n5_
            have GE329 := n6_
            have NB312_329 := n7_
            have NB329_312 := n8_
            have NB313_329 := n9_
            have NB329_313 := n10_
            have NB320_329 := n11_
            have NB329_320 := n12_
            clear n0_ n1_ n2_ n3_ n4_ n5_ n6_ n7_ n8_ n9_ n10_ n11_ n12_
            clear hb hbox hg
            refine hK.out _ _ ⟨(blk_cell BK312.out 0).trans rfl, (blk_cell BK312.out 1).trans rfl, (blk_cell BK312.out 2).trans rfl, (blk_cell BK312.out 3).trans rfl, (blk_cell BK313.out 0).trans rfl, (blk_cell BK313.out 1).trans rfl, (blk_cell BK313.out 2).trans rfl, (blk_cell BK313.out 3).trans rfl⟩ (fun hHeld => ?_)
            clear hK K
            refine norm_ (a' := ?_) ?_ ?_
            rotate_left
            ·show Act.put _ (some 8) _ = _
             simp only [Act.put, List.setIfInBounds_toArray, List.set_cons_zero, List.set_cons_succ, i64_w, i32_w]
             rfl
            exact norm_ (by simp only [putAll, Act.put, List.setIfInBounds_toArray, List.set_cons_zero, List.set_cons_succ]) (hCont (gb329) _ ⟨hHeld, (by (with_reducible repeat (first | refine blk_drewN ?_ _ | refine blk_drew ?_ | refine blk_alloc ?_ _)); exact BK312.out), (by (with_reducible repeat (first | refine blk_drewN ?_ _ | refine blk_drew ?_ | refine blk_alloc ?_ _)); exact BK313.out), (by (with_reducible repeat (first | refine blk_drewN ?_ _ | refine blk_drew ?_ | refine blk_alloc ?_ _)); exact BK320.out), (by (with_reducible repeat (first | refine blk_drewN ?_ _ | refine blk_drew ?_ | refine blk_alloc ?_ _)); exact BK329.out), GW329.out, GE329.out, NB312_329.out, NB329_312.out, NB313_329.out, NB329_313.out, NB320_329.out, NB329_320.out, (by repeat (first | (with_reducible first | exact HB.out | apply below_alloc | apply pw_below_drewN | apply below_drew1 | refine below_set ?_ GE312.out | refine below_set ?_ GE313.out | refine below_set ?_ GE320.out | refine below_set ?_ GE329.out) | exact HB.out))⟩)
           ·skip
            refine box_step ?hg (N := 8) ?hd (cs := #[.int .i64 0, .int .i64 0, .int .i64 0, .int .i64 0]) (t := 25) ?hr ?_; (case hd => rfl); (case hg => rfl); (case hr => first | (go_simp; done) | (go_simp; rfl))
            intro gb329 hg w74 hbox hb
            have n0_ := Aside0.mk (bb_ BK312.out hb)
            have n1_ := Aside0.mk (bb_ BK313.out hb)
            have n2_ := Aside0.mk (bb_ BK320.out hb)
            have n3_ := Aside0.mk (below_step (by repeat (first | (with_reducible first | exact HB.out | apply below_alloc | apply pw_below_drewN | apply below_drew1 | refine below_set ?_ GE312.out | refine below_set ?_ GE313.out | refine below_set ?_ GE320.out) | exact HB.out)) hb)
            have n4_ := Aside0.mk (hbox)
            have n5_ := Aside0.mk ((by rw [hg]; exact (below_size (by repeat (first | (with_reducible first | exact HB.out | apply below_alloc | apply pw_below_drewN | apply below_drew1 | refine below_set ?_ GE312.out | refine below_set ?_ GE313.out | refine below_set ?_ GE320.out) | exact HB.out))) : w.heap.size ≤ gb329))
            have n6_ := Aside0.mk ((by rw [hg]; exact (below_size (by repeat (first | (with_reducible first | exact HB.out | apply below_alloc | apply pw_below_drewN | apply below_drew1 | refine below_set ?_ GE312.out | refine below_set ?_ GE313.out | refine below_set ?_ GE320.out) | exact HB.out))) : w.heap.size ≤ gb329))
            have n7_ := Aside0.mk ((by rw [hg]; exact Nat.ne_of_lt (blk_lt (g := gb312) (o := .cells #[.int .i64 a0_0, .int .i64 a0_1, .int .i64 a0_2, .int .i64 a0_3] 23 (0, 0)) (by (with_reducible repeat (first | refine blk_drewN ?_ _ | refine blk_drew ?_ | refine blk_alloc ?_ _)); exact BK312.out)) : gb312 ≠ gb329))
            have n8_ := Aside0.mk ((by rw [hg]; exact Nat.ne_of_gt (blk_lt (g := gb312) (o := .cells #[.int .i64 a0_0, .int .i64 a0_1, .int .i64 a0_2, .int .i64 a0_3] 23 (0, 0)) (by (with_reducible repeat (first | refine blk_drewN ?_ _ | refine blk_drew ?_ | refine blk_alloc ?_ _)); exact BK312.out)) : gb329 ≠ gb312))
            have n9_ := Aside0.mk ((by rw [hg]; exact Nat.ne_of_lt (blk_lt (g := gb313) (o := .cells #[.int .i64 a1_0, .int .i64 a1_1, .int .i64 a1_2, .int .i64 a1_3] 25 (0, 0)) (by (with_reducible repeat (first | refine blk_drewN ?_ _ | refine blk_drew ?_ | refine blk_alloc ?_ _)); exact BK313.out)) : gb313 ≠ gb329))
            have n10_ := Aside0.mk ((by rw [hg]; exact Nat.ne_of_gt (blk_lt (g := gb313) (o := .cells #[.int .i64 a1_0, .int .i64 a1_1, .int .i64 a1_2, .int .i64 a1_3] 25 (0, 0)) (by (with_reducible repeat (first | refine blk_drewN ?_ _ | refine blk_drew ?_ | refine blk_alloc ?_ _)); exact BK313.out)) : gb329 ≠ gb313))
            have n11_ := Aside0.mk ((by rw [hg]; exact Nat.ne_of_lt (blk_lt (g := gb320) (o := .cells #[.int .i64 t316, .int .i64 t317, .int .i64 t318, .int .i64 t319] 25 (0, 0)) (by (with_reducible repeat (first | refine blk_drewN ?_ _ | refine blk_drew ?_ | refine blk_alloc ?_ _)); exact BK320.out)) : gb320 ≠ gb329))
            have n12_ := Aside0.mk ((by rw [hg]; exact Nat.ne_of_gt (blk_lt (g := gb320) (o := .cells #[.int .i64 t316, .int .i64 t317, .int .i64 t318, .int .i64 t319] 25 (0, 0)) (by (with_reducible repeat (first | refine blk_drewN ?_ _ | refine blk_drew ?_ | refine blk_alloc ?_ _)); exact BK320.out)) : gb329 ≠ gb320))
            clear BK312
            clear BK313
            clear BK320
            clear HB
            have BK312 := n0_
            have BK313 := n1_
            have BK320 := n2_
            have HB := n3_
            have BK329 := n4_
            have GW329 := n5_
            have GE329 := n6_
            have NB312_329 := n7_
            have NB329_312 := n8_
            have NB313_329 := n9_
            have NB329_313 := n10_
            have NB320_329 := n11_
            have NB329_320 := n12_
            clear n0_ n1_ n2_ n3_ n4_ n5_ n6_ n7_ n8_ n9_ n10_ n11_ n12_
            clear hb hbox hg
            refine hK.out _ _ ⟨(blk_cell BK312.out 0).trans rfl, (blk_cell BK312.out 1).trans rfl, (blk_cell BK312.out 2).trans rfl, (blk_cell BK312.out 3).trans rfl, (blk_cell BK313.out 0).trans rfl, (blk_cell BK313.out 1).trans rfl, (blk_cell BK313.out 2).trans rfl, (blk_cell BK313.out 3).trans rfl⟩ (fun hHeld => ?_)
            clear hK K
            refine norm_ (a' := ?_) ?_ ?_
            rotate_left
            ·show Act.put _ (some 8) _ = _
             simp only [Act.put, List.setIfInBounds_toArray, List.set_cons_zero, List.set_cons_succ, i64_w, i32_w]
             rfl
            refine one_ (i := 4) (N := some 96) #[true, true, true, true, true, true, false] rfl rfl (by kernel_rfl) (by decide) (fun K hK => ?_)
            refine goes_ Try.func24 (by kernel_rfl) rfl #[.agg #[.int .i64 a0_0, .int .i64 a0_1, .int .i64 a0_2, .int .i64 a0_3], .agg #[.int .i64 t321, .int .i64 t322, .int .i64 t323, .int .i64 t324], .int .i64 240] (by rfl) rfl rfl (by (try simp only [List.map_toArray, List.map_cons, List.map_nil]); first | done | rfl | (simp only [List.length_drop, List.length_take]; rfl)) ?_
            with_reducible refine (drive_Step.calls kj9 a0_0 a0_1 a0_2 a0_3 t321 t322 t323 t324 240 t325 t326 t327 t328 _ A65.out).mono ?_
            rintro e w75 ⟨rfl, hb⟩
            refine ⟨_, rfl, ?_⟩
            have n0_ := Aside0.mk (bb_ BK312.out hb)
            have n1_ := Aside0.mk (bb_ BK313.out hb)
            have n2_ := Aside0.mk (bb_ BK320.out hb)
            have n3_ := Aside0.mk (bb_ BK329.out hb)
            have n4_ := Aside0.mk (below_step (by repeat (first | (with_reducible first | exact HB.out | apply below_alloc | apply pw_below_drewN | apply below_drew1 | refine below_set ?_ GE312.out | refine below_set ?_ GE313.out | refine below_set ?_ GE320.out | refine below_set ?_ GE329.out) | exact HB.out)) hb)
            clear BK312
            clear BK313
            clear BK320
            clear BK329
            clear HB
            have BK312 := n0_
            have BK313 := n1_
            have BK320 := n2_
            have BK329 := n3_
            have HB := n4_
            clear n0_ n1_ n2_ n3_ n4_
            (try clear hb)
            (try clear hb2)
            (try clear hk)
            (try clear hi)
            refine hK.out _ _ ⟨(blk_cell BK312.out 0).trans rfl, (blk_cell BK312.out 1).trans rfl, (blk_cell BK312.out 2).trans rfl, (blk_cell BK312.out 3).trans rfl, (blk_cell BK313.out 0).trans rfl, (blk_cell BK313.out 1).trans rfl, (blk_cell BK313.out 2).trans rfl, (blk_cell BK313.out 3).trans rfl⟩ (fun hHeld => ?_)
            clear hK K
            refine norm_ (a' := ?_) ?_ ?_
            rotate_left
            ·show Act.put _ (some 96) _ = _
             simp only [Act.put, List.setIfInBounds_toArray, List.set_cons_zero, List.set_cons_succ, i64_w, i32_w]
             rfl
            exact norm_ (by simp only [putAll, Act.put, List.setIfInBounds_toArray, List.set_cons_zero, List.set_cons_succ]) (hCont (gb329) _ ⟨hHeld, (by (with_reducible repeat (first | refine blk_drewN ?_ _ | refine blk_drew ?_ | refine blk_alloc ?_ _)); exact BK312.out), (by (with_reducible repeat (first | refine blk_drewN ?_ _ | refine blk_drew ?_ | refine blk_alloc ?_ _)); exact BK313.out), (by (with_reducible repeat (first | refine blk_drewN ?_ _ | refine blk_drew ?_ | refine blk_alloc ?_ _)); exact BK320.out), (by (with_reducible repeat (first | refine blk_drewN ?_ _ | refine blk_drew ?_ | refine blk_alloc ?_ _)); exact BK329.out), GW329.out, GE329.out, NB312_329.out, NB329_312.out, NB313_329.out, NB329_313.out, NB320_329.out, NB329_320.out, (by repeat (first | (with_reducible first | exact HB.out | apply below_alloc | apply pw_below_drewN | apply below_drew1 | refine below_set ?_ GE312.out | refine below_set ?_ GE313.out | refine below_set ?_ GE320.out | refine below_set ?_ GE329.out) | exact HB.out))⟩)
          ·skip
           refine box_step ?hg (N := 8) ?hd (cs := #[.int .i64 0, .int .i64 0, .int .i64 0, .int .i64 0]) (t := 25) ?hr ?_; (case hd => rfl); (case hg => rfl); (case hr => first | (go_simp; done) | (go_simp; rfl))
           intro gb329 hg w73 hbox hb
           have n0_ := Aside0.mk (bb_ BK312.out hb)
           have n1_ := Aside0.mk (bb_ BK313.out hb)
           have n2_ := Aside0.mk (bb_ BK320.out hb)
           have n3_ := Aside0.mk (below_step (by repeat (first | (with_reducible first | exact HB.out | apply below_alloc | apply pw_below_drewN | apply below_drew1 | refine below_set ?_ GE312.out | refine below_set ?_ GE313.out | refine below_set ?_ GE320.out) | exact HB.out)) hb)
           have n4_ := Aside0.mk (hbox)
           have n5_ := Aside0.mk ((by rw [hg]; exact (below_size (by repeat (first | (with_reducible first | exact HB.out | apply below_alloc | apply pw_below_drewN | apply below_drew1 | refine below_set ?_ GE312.out | refine below_set ?_ GE313.out | refine below_set ?_ GE320.out) | exact HB.out))) : w.heap.size ≤ gb329))
           have n6_ := Aside0.mk ((by rw [hg]; exact (below_size (by repeat (first | (with_reducible first | exact HB.out | apply below_alloc | apply pw_below_drewN | apply below_drew1 | refine below_set ?_ GE312.out | refine below_set ?_ GE313.out | refine below_set ?_ GE320.out) | exact HB.out))) : w.heap.size ≤ gb329))
           have n7_ := Aside0.mk ((by rw [hg]; exact Nat.ne_of_lt (blk_lt (g := gb312) (o := .cells #[.int .i64 a0_0, .int .i64 a0_1, .int .i64 a0_2, .int .i64 a0_3] 23 (0, 0)) (by (with_reducible repeat (first | refine blk_drewN ?_ _ | refine blk_drew ?_ | refine blk_alloc ?_ _)); exact BK312.out)) : gb312 ≠ gb329))
           have n8_ := Aside0.mk ((by rw [hg]; exact Nat.ne_of_gt (blk_lt (g := gb312) (o := .cells #[.int .i64 a0_0, .int .i64 a0_1, .int .i64 a0_2, .int .i64 a0_3] 23 (0, 0)) (by (with_reducible repeat (first | refine blk_drewN ?_ _ | refine blk_drew ?_ | refine blk_alloc ?_ _)); exact BK312.out)) : gb329 ≠ gb312))
           have n9_ := Aside0.mk ((by rw [hg]; exact Nat.ne_of_lt (blk_lt (g := gb313) (o := .cells #[.int .i64 a1_0, .int .i64 a1_1, .int .i64 a1_2, .int .i64 a1_3] 25 (0, 0)) (by (with_reducible repeat (first | refine blk_drewN ?_ _ | refine blk_drew ?_ | refine blk_alloc ?_ _)); exact BK313.out)) : gb313 ≠ gb329))
           have n10_ := Aside0.mk ((by rw [hg]; exact Nat.ne_of_gt (blk_lt (g := gb313) (o := .cells #[.int .i64 a1_0, .int .i64 a1_1, .int .i64 a1_2, .int .i64 a1_3] 25 (0, 0)) (by (with_reducible repeat (first | refine blk_drewN ?_ _ | refine blk_drew ?_ | refine blk_alloc ?_ _)); exact BK313.out)) : gb329 ≠ gb313))
           have n11_ := Aside0.mk ((by rw [hg]; exact Nat.ne_of_lt (blk_lt (g := gb320) (o := .cells #[.int .i64 t316, .int .i64 t317, .int .i64 t318, .int .i64 t319] 25 (0, 0)) (by (with_reducible repeat (first | refine blk_drewN ?_ _ | refine blk_drew ?_ | refine blk_alloc ?_ _)); exact BK320.out)) : gb320 ≠ gb329))
           have n12_ := Aside0.mk ((by rw [hg]; exact Nat.ne_of_gt (blk_lt (g := gb320) (o := .cells #[.int .i64 t316, .int .i64 t317, .int .i64 t318, .int .i64 t319] 25 (0, 0)) (by (with_reducible repeat (first | refine blk_drewN ?_ _ | refine blk_drew ?_ | refine blk_alloc ?_ _)); exact BK320.out)) : gb329 ≠ gb320))
           clear BK312
           clear BK313
           clear BK320
           clear HB
           have BK312 := n0_
           have BK313 := n1_
           have BK320 := n2_
           have HB := n3_
           have BK329 := n4_
           have GW329 := n5_
           have GE329 := n6_
           have NB312_329 := n7_
           have NB329_312 := n8_
           have NB313_329 := n9_
           have NB329_313 := n10_
           have NB320_329 := n11_
           have NB329_320 := n12_
           clear n0_ n1_ n2_ n3_ n4_ n5_ n6_ n7_ n8_ n9_ n10_ n11_ n12_
           clear hb hbox hg
           refine hK.out _ _ ⟨(blk_cell BK312.out 0).trans rfl, (blk_cell BK312.out 1).trans rfl, (blk_cell BK312.out 2).trans rfl, (blk_cell BK312.out 3).trans rfl, (blk_cell BK313.out 0).trans rfl, (blk_cell BK313.out 1).trans rfl, (blk_cell BK313.out 2).trans rfl, (blk_cell BK313.out 3).trans rfl⟩ (fun hHeld => ?_)
           clear hK K
           refine norm_ (a' := ?_) ?_ ?_
           rotate_left
           ·show Act.put _ (some 8) _ = _
            simp only [Act.put, List.setIfInBounds_toArray, List.set_cons_zero, List.set_cons_succ, i64_w, i32_w]
            rfl
           refine one_ (i := 3) (N := some 95) #[true, true, true, true, false, true, false] rfl rfl (by kernel_rfl) (by decide) (fun K hK => ?_)
           refine goes_ Try.func20 (by kernel_rfl) rfl #[.agg #[.int .i64 a0_0, .int .i64 a0_1, .int .i64 a0_2, .int .i64 a0_3], .agg #[.int .i64 a1_0, .int .i64 a1_1, .int .i64 a1_2, .int .i64 a1_3]] (by rfl) rfl rfl (by (try simp only [List.map_toArray, List.map_cons, List.map_nil]); first | done | rfl | (simp only [List.length_drop, List.length_take]; rfl)) ?_
           with_reducible refine (drive_Halt.calls a0_0 a0_1 a0_2 a0_3 a1_0 a1_1 a1_2 a1_3 t321 t322 t323 t324 _ A64.out).mono ?_
           rintro e w74 ⟨rfl, hb⟩
           refine ⟨_, rfl, ?_⟩
           have n0_ := Aside0.mk (bb_ BK312.out hb)
           have n1_ := Aside0.mk (bb_ BK313.out hb)
           have n2_ := Aside0.mk (bb_ BK320.out hb)
           have n3_ := Aside0.mk (bb_ BK329.out hb)
           have n4_ := Aside0.mk (below_step (by repeat (first | (with_reducible first | exact HB.out | apply below_alloc | apply pw_below_drewN | apply below_drew1 | refine below_set ?_ GE312.out | refine below_set ?_ GE313.out | refine below_set ?_ GE320.out | refine below_set ?_ GE329.out) | exact HB.out)) hb)
           clear BK312
           clear BK313
           clear BK320
           clear BK329
           clear HB
           have BK312 := n0_
           have BK313 := n1_
           have BK320 := n2_
           have BK329 := n3_
           have HB := n4_
           clear n0_ n1_ n2_ n3_ n4_
           (try clear hb)
           (try clear hb2)
           (try clear hk)
           (try clear hi)
           refine hK.out _ _ ⟨(blk_cell BK312.out 0).trans rfl, (blk_cell BK312.out 1).trans rfl, (blk_cell BK312.out 2).trans rfl, (blk_cell BK312.out 3).trans rfl, (blk_cell BK313.out 0).trans rfl, (blk_cell BK313.out 1).trans rfl, (blk_cell BK313.out 2).trans rfl, (blk_cell BK313.out 3).trans rfl⟩ (fun hHeld => ?_)
           clear hK K
           refine norm_ (a' := ?_) ?_ ?_
           rotate_left
           ·show Act.put _ (some 95) _ = _
            simp only [Act.put, List.setIfInBounds_toArray, List.set_cons_zero, List.set_cons_succ, i64_w, i32_w]
            rfl
           refine one_ (i := 4) (N := some 96) #[true, true, true, true, true, true, false] rfl rfl (by kernel_rfl) (by decide) (fun K hK => ?_)
           refine goes_ Try.func24 (by kernel_rfl) rfl #[.agg #[.int .i64 a0_0, .int .i64 a0_1, .int .i64 a0_2, .int .i64 a0_3], .agg #[.int .i64 t321, .int .i64 t322, .int .i64 t323, .int .i64 t324], .int .i64 240] (by rfl) rfl rfl (by (try simp only [List.map_toArray, List.map_cons, List.map_nil]); first | done | rfl | (simp only [List.length_drop, List.length_take]; rfl)) ?_
           with_reducible refine (drive_Step.calls kj9 a0_0 a0_1 a0_2 a0_3 t321 t322 t323 t324 240 t325 t326 t327 t328 _ A65.out).mono ?_
           rintro e w75 ⟨rfl, hb⟩
           refine ⟨_, rfl, ?_⟩
           have n0_ := Aside0.mk (bb_ BK312.out hb)
           have n1_ := Aside0.mk (bb_ BK313.out hb)
           have n2_ := Aside0.mk (bb_ BK320.out hb)
           have n3_ := Aside0.mk (bb_ BK329.out hb)
           have n4_ := Aside0.mk (below_step (by repeat (first | (with_reducible first | exact HB.out | apply below_alloc | apply pw_below_drewN | apply below_drew1 | refine below_set ?_ GE312.out | refine below_set ?_ GE313.out | refine below_set ?_ GE320.out | refine below_set ?_ GE329.out) | exact HB.out)) hb)
           clear BK312
           clear BK313
           clear BK320
           clear BK329
           clear HB
           have BK312 := n0_
           have BK313 := n1_
           have BK320 := n2_
           have BK329 := n3_
           have HB := n4_
           clear n0_ n1_ n2_ n3_ n4_
           (try clear hb)
           (try clear hb2)
           (try clear hk)
           (try clear hi)
           refine hK.out _ _ ⟨(blk_cell BK312.out 0).trans rfl, (blk_cell BK312.out 1).trans rfl, (blk_cell BK312.out 2).trans rfl, (blk_cell BK312.out 3).trans rfl, (blk_cell BK313.out 0).trans rfl, (blk_cell BK313.out 1).trans rfl, (blk_cell BK313.out 2).trans rfl, (blk_cell BK313.out 3).trans rfl⟩ (fun hHeld => ?_)
           clear hK K
           refine norm_ (a' := ?_) ?_ ?_
           rotate_left
           ·show Act.put _ (some 96) _ = _
            simp only [Act.put, List.setIfInBounds_toArray, List.set_cons_zero, List.set_cons_succ, i64_w, i32_w]
            rfl
           exact norm_ (by simp only [putAll, Act.put, List.setIfInBounds_toArray, List.set_cons_zero, List.set_cons_succ]) (hCont (gb329) _ ⟨hHeld, (by (with_reducible repeat (first | refine blk_drewN ?_ _ | refine blk_drew ?_ | refine blk_alloc ?_ _)); exact BK312.out), (by (with_reducible repeat (first | refine blk_drewN ?_ _ | refine blk_drew ?_ | refine blk_alloc ?_ _)); exact BK313.out), (by (with_reducible repeat (first | refine blk_drewN ?_ _ | refine blk_drew ?_ | refine blk_alloc ?_ _)); exact BK320.out), (by (with_reducible repeat (first | refine blk_drewN ?_ _ | refine blk_drew ?_ | refine blk_alloc ?_ _)); exact BK329.out), GW329.out, GE329.out, NB312_329.out, NB329_312.out, NB313_329.out, NB329_313.out, NB320_329.out, NB329_320.out, (by repeat (first | (with_reducible first | exact HB.out | apply below_alloc | apply pw_below_drewN | apply below_drew1 | refine below_set ?_ GE312.out | refine below_set ?_ GE313.out | refine below_set ?_ GE320.out | refine below_set ?_ GE329.out) | exact HB.out))⟩)
         rintro gb329 w76 ⟨hS_, h0_, h1_, h2_, h3_, h4_, h5_, h6_, h7_, h8_, h9_, h10_, h11_, h12_⟩
         have n0_ : Aside0 (w76.heap[gb312]? = some (.cells #[.int .i64 a0_0, .int .i64 a0_1, .int .i64 a0_2, .int .i64 a0_3] 23 (0, 0))) := ⟨h0_⟩
         have n1_ : Aside0 (w76.heap[gb313]? = some (.cells #[.int .i64 a1_0, .int .i64 a1_1, .int .i64 a1_2, .int .i64 a1_3] 25 (0, 0))) := ⟨h1_⟩
         have n2_ : Aside0 (w76.heap[gb320]? = some (.cells #[.int .i64 t316, .int .i64 t317, .int .i64 t318, .int .i64 t319] 25 (0, 0))) := ⟨h2_⟩
         have n3_ : Aside0 (w76.heap[gb329]? = some (.cells #[.int .i64 0, .int .i64 0, .int .i64 0, .int .i64 0] 25 (0, 0))) := ⟨h3_⟩
         have n4_ : Aside0 (w.heap.size ≤ gb329) := ⟨h4_⟩
         have n5_ : Aside0 (w.heap.size ≤ gb329) := ⟨h5_⟩
         have n6_ : Aside0 (gb312 ≠ gb329) := ⟨h6_⟩
         have n7_ : Aside0 (gb329 ≠ gb312) := ⟨h7_⟩
         have n8_ : Aside0 (gb313 ≠ gb329) := ⟨h8_⟩
         have n9_ : Aside0 (gb329 ≠ gb313) := ⟨h9_⟩
         have n10_ : Aside0 (gb320 ≠ gb329) := ⟨h10_⟩
         have n11_ : Aside0 (gb329 ≠ gb320) := ⟨h11_⟩
         have n12_ : Aside0 (Below w.heap.size w w76) := ⟨h12_⟩
         clear BK312
         clear BK313
         clear BK320
         clear HB
         clear h0_ h1_ h2_ h3_ h4_ h5_ h6_ h7_ h8_ h9_ h10_ h11_ h12_
         have BK312 := n0_
         have BK313 := n1_
         have BK320 := n2_
         have BK329 := n3_
         have GW329 := n4_
         have GE329 := n5_
         have NB312_329 := n6_
         have NB329_312 := n7_
         have NB313_329 := n8_
         have NB329_313 := n9_
         have NB320_329 := n10_
         have NB329_320 := n11_
         have HB := n12_
         clear n0_ n1_ n2_ n3_ n4_ n5_ n6_ n7_ n8_ n9_ n10_ n11_ n12_
         have hHeld : w76.cell? ⟨gb312, 0, none⟩ = some (.int .i64 a0_0) ∧ w76.cell? ⟨gb312, 1, none⟩ = some (.int .i64 a0_1) ∧ w76.cell? ⟨gb312, 2, none⟩ = some (.int .i64 a0_2) ∧ w76.cell? ⟨gb312, 3, none⟩ = some (.int .i64 a0_3) ∧ w76.cell? ⟨gb313, 0, none⟩ = some (.int .i64 a1_0) ∧ w76.cell? ⟨gb313, 1, none⟩ = some (.int .i64 a1_1) ∧ w76.cell? ⟨gb313, 2, none⟩ = some (.int .i64 a1_2) ∧ w76.cell? ⟨gb313, 3, none⟩ = some (.int .i64 a1_3) := hS_
         refine norm_ (a' := ?_) ?_ ?_
         rotate_left
         ·simp only [putAll, Act.put, List.setIfInBounds_toArray, List.set_cons_zero, List.set_cons_succ]
          rfl
         refine one_ (i := 6) (N := none) #[true, true, true, true, true, true, true] rfl rfl (by kernel_rfl) (by decide) (fun K hK => ?_)
         have hs77 : w76.cell? ⟨gb329, 0, none⟩ = some (.int .i64 0) := (blk_cell BK329.out 0).trans rfl
         have hfs77 := blk_frozen BK329.out 0
         have hns77_0 := NB312_329.out
         have hns77_1 := NB313_329.out
         have hns77_2 := NB320_329.out
         have hms77_0 := NB329_312.out
         have hms77_1 := NB329_313.out
         have hms77_2 := NB329_320.out
         have hs78 : w76.cell? ⟨gb329, 1, none⟩ = some (.int .i64 0) := (blk_cell BK329.out 1).trans rfl
         have hfs78 := blk_frozen BK329.out 1
         have hns78_0 := NB312_329.out
         have hns78_1 := NB313_329.out
         have hns78_2 := NB320_329.out
         have hms78_0 := NB329_312.out
         have hms78_1 := NB329_313.out
         have hms78_2 := NB329_320.out
         have hs79 : w76.cell? ⟨gb329, 2, none⟩ = some (.int .i64 0) := (blk_cell BK329.out 2).trans rfl
         have hfs79 := blk_frozen BK329.out 2
         have hns79_0 := NB312_329.out
         have hns79_1 := NB313_329.out
         have hns79_2 := NB320_329.out
         have hms79_0 := NB329_312.out
         have hms79_1 := NB329_313.out
         have hms79_2 := NB329_320.out
         have hs80 : w76.cell? ⟨gb329, 3, none⟩ = some (.int .i64 0) := (blk_cell BK329.out 3).trans rfl
         have hfs80 := blk_frozen BK329.out 3
         have hns80_0 := NB312_329.out
         have hns80_1 := NB313_329.out
         have hns80_2 := NB320_329.out
         have hms80_0 := NB329_312.out
         have hms80_1 := NB329_313.out
         have hms80_2 := NB329_320.out
         refine skip_ (w1 := ?_) (by rfl) rfl ?_ ?_
         rotate_left
         ·go_simp
          rfl
         refine hK.out _ _ ⟨((cell_far (p := ⟨gb329, _, none⟩) NB312_329.out _).trans (((cell_far (p := ⟨gb329, _, none⟩) NB312_329.out _).trans (((cell_far (p := ⟨gb329, _, none⟩) NB312_329.out _).trans (((cell_far (p := ⟨gb329, _, none⟩) NB312_329.out _).trans (hHeld.1)))))))), ((cell_far (p := ⟨gb329, _, none⟩) NB312_329.out _).trans (((cell_far (p := ⟨gb329, _, none⟩) NB312_329.out _).trans (((cell_far (p := ⟨gb329, _, none⟩) NB312_329.out _).trans (((cell_far (p := ⟨gb329, _, none⟩) NB312_329.out _).trans (hHeld.2.1)))))))), ((cell_far (p := ⟨gb329, _, none⟩) NB312_329.out _).trans (((cell_far (p := ⟨gb329, _, none⟩) NB312_329.out _).trans (((cell_far (p := ⟨gb329, _, none⟩) NB312_329.out _).trans (((cell_far (p := ⟨gb329, _, none⟩) NB312_329.out _).trans (hHeld.2.2.1)))))))), ((cell_far (p := ⟨gb329, _, none⟩) NB312_329.out _).trans (((cell_far (p := ⟨gb329, _, none⟩) NB312_329.out _).trans (((cell_far (p := ⟨gb329, _, none⟩) NB312_329.out _).trans (((cell_far (p := ⟨gb329, _, none⟩) NB312_329.out _).trans (hHeld.2.2.2.1)))))))), ((cell_far (p := ⟨gb329, _, none⟩) NB313_329.out _).trans (((cell_far (p := ⟨gb329, _, none⟩) NB313_329.out _).trans (((cell_far (p := ⟨gb329, _, none⟩) NB313_329.out _).trans (((cell_far (p := ⟨gb329, _, none⟩) NB313_329.out _).trans (hHeld.2.2.2.2.1)))))))), ((cell_far (p := ⟨gb329, _, none⟩) NB313_329.out _).trans (((cell_far (p := ⟨gb329, _, none⟩) NB313_329.out _).trans (((cell_far (p := ⟨gb329, _, none⟩) NB313_329.out _).trans (((cell_far (p := ⟨gb329, _, none⟩) NB313_329.out _).trans (hHeld.2.2.2.2.2.1)))))))), ((cell_far (p := ⟨gb329, _, none⟩) NB313_329.out _).trans (((cell_far (p := ⟨gb329, _, none⟩) NB313_329.out _).trans (((cell_far (p := ⟨gb329, _, none⟩) NB313_329.out _).trans (((cell_far (p := ⟨gb329, _, none⟩) NB313_329.out _).trans (hHeld.2.2.2.2.2.2.1)))))))), ((cell_far (p := ⟨gb329, _, none⟩) NB313_329.out _).trans (((cell_far (p := ⟨gb329, _, none⟩) NB313_329.out _).trans (((cell_far (p := ⟨gb329, _, none⟩) NB313_329.out _).trans (((cell_far (p := ⟨gb329, _, none⟩) NB313_329.out _).trans (hHeld.2.2.2.2.2.2.2))))))))⟩ (fun hHeld => ?_)
         clear hK K
         refine done_ (by kernel_rfl) ?_
         try go_wp2
         have n0_ : Aside0 (((((w76.setCell ⟨gb329, 0, none⟩ (.int .i64 t325)).setCell ⟨gb329, 1, none⟩ (.int .i64 t326)).setCell ⟨gb329, 2, none⟩ (.int .i64 t327)).setCell ⟨gb329, 3, none⟩ (.int .i64 t328)).heap[gb312]? = some (.cells #[.int .i64 a0_0, .int .i64 a0_1, .int .i64 a0_2, .int .i64 a0_3] 23 (0, 0))) := ⟨by (with_reducible repeat (first | refine blk_drewN ?_ _ | refine blk_drew ?_ | refine blk_alloc ?_ _)); refine blk_far ?_ NB312_329.out _; (with_reducible repeat (first | refine blk_drewN ?_ _ | refine blk_drew ?_ | refine blk_alloc ?_ _)); refine blk_far ?_ NB312_329.out _; (with_reducible repeat (first | refine blk_drewN ?_ _ | refine blk_drew ?_ | refine blk_alloc ?_ _)); refine blk_far ?_ NB312_329.out _; (with_reducible repeat (first | refine blk_drewN ?_ _ | refine blk_drew ?_ | refine blk_alloc ?_ _)); refine blk_far ?_ NB312_329.out _; (with_reducible repeat (first | refine blk_drewN ?_ _ | refine blk_drew ?_ | refine blk_alloc ?_ _)); exact BK312.out⟩
         have n1_ : Aside0 (((((w76.setCell ⟨gb329, 0, none⟩ (.int .i64 t325)).setCell ⟨gb329, 1, none⟩ (.int .i64 t326)).setCell ⟨gb329, 2, none⟩ (.int .i64 t327)).setCell ⟨gb329, 3, none⟩ (.int .i64 t328)).heap[gb313]? = some (.cells #[.int .i64 a1_0, .int .i64 a1_1, .int .i64 a1_2, .int .i64 a1_3] 25 (0, 0))) := ⟨by (with_reducible repeat (first | refine blk_drewN ?_ _ | refine blk_drew ?_ | refine blk_alloc ?_ _)); refine blk_far ?_ NB313_329.out _; (with_reducible repeat (first | refine blk_drewN ?_ _ | refine blk_drew ?_ | refine blk_alloc ?_ _)); refine blk_far ?_ NB313_329.out _; (with_reducible repeat (first | refine blk_drewN ?_ _ | refine blk_drew ?_ | refine blk_alloc ?_ _)); refine blk_far ?_ NB313_329.out _; (with_reducible repeat (first | refine blk_drewN ?_ _ | refine blk_drew ?_ | refine blk_alloc ?_ _)); refine blk_far ?_ NB313_329.out _; (with_reducible repeat (first | refine blk_drewN ?_ _ | refine blk_drew ?_ | refine blk_alloc ?_ _)); exact BK313.out⟩
         have n2_ : Aside0 (((((w76.setCell ⟨gb329, 0, none⟩ (.int .i64 t325)).setCell ⟨gb329, 1, none⟩ (.int .i64 t326)).setCell ⟨gb329, 2, none⟩ (.int .i64 t327)).setCell ⟨gb329, 3, none⟩ (.int .i64 t328)).heap[gb320]? = some (.cells #[.int .i64 t316, .int .i64 t317, .int .i64 t318, .int .i64 t319] 25 (0, 0))) := ⟨by (with_reducible repeat (first | refine blk_drewN ?_ _ | refine blk_drew ?_ | refine blk_alloc ?_ _)); refine blk_far ?_ NB320_329.out _; (with_reducible repeat (first | refine blk_drewN ?_ _ | refine blk_drew ?_ | refine blk_alloc ?_ _)); refine blk_far ?_ NB320_329.out _; (with_reducible repeat (first | refine blk_drewN ?_ _ | refine blk_drew ?_ | refine blk_alloc ?_ _)); refine blk_far ?_ NB320_329.out _; (with_reducible repeat (first | refine blk_drewN ?_ _ | refine blk_drew ?_ | refine blk_alloc ?_ _)); refine blk_far ?_ NB320_329.out _; (with_reducible repeat (first | refine blk_drewN ?_ _ | refine blk_drew ?_ | refine blk_alloc ?_ _)); exact BK320.out⟩
         have n3_ : Aside0 (((((w76.setCell ⟨gb329, 0, none⟩ (.int .i64 t325)).setCell ⟨gb329, 1, none⟩ (.int .i64 t326)).setCell ⟨gb329, 2, none⟩ (.int .i64 t327)).setCell ⟨gb329, 3, none⟩ (.int .i64 t328)).heap[gb329]? = some (.cells #[.int .i64 t325, .int .i64 t326, .int .i64 t327, .int .i64 t328] 25 (0, 0))) := ⟨by (with_reducible repeat (first | refine blk_drewN ?_ _ | refine blk_drew ?_ | refine blk_alloc ?_ _)); refine blk_put (cs := #[.int .i64 t325, .int .i64 t326, .int .i64 t327, .int .i64 0]) ?_ 3 _ rfl; (with_reducible repeat (first | refine blk_drewN ?_ _ | refine blk_drew ?_ | refine blk_alloc ?_ _)); refine blk_put (cs := #[.int .i64 t325, .int .i64 t326, .int .i64 0, .int .i64 0]) ?_ 2 _ rfl; (with_reducible repeat (first | refine blk_drewN ?_ _ | refine blk_drew ?_ | refine blk_alloc ?_ _)); refine blk_put (cs := #[.int .i64 t325, .int .i64 0, .int .i64 0, .int .i64 0]) ?_ 1 _ rfl; (with_reducible repeat (first | refine blk_drewN ?_ _ | refine blk_drew ?_ | refine blk_alloc ?_ _)); refine blk_put (cs := #[.int .i64 0, .int .i64 0, .int .i64 0, .int .i64 0]) ?_ 0 _ rfl; (with_reducible repeat (first | refine blk_drewN ?_ _ | refine blk_drew ?_ | refine blk_alloc ?_ _)); exact BK329.out⟩
         have n4_ : Aside0 (Below w.heap.size w ((((w76.setCell ⟨gb329, 0, none⟩ (.int .i64 t325)).setCell ⟨gb329, 1, none⟩ (.int .i64 t326)).setCell ⟨gb329, 2, none⟩ (.int .i64 t327)).setCell ⟨gb329, 3, none⟩ (.int .i64 t328))) := ⟨by repeat (first | (with_reducible first | exact HB.out | apply below_alloc | apply pw_below_drewN | apply below_drew1 | refine below_set ?_ GE312.out | refine below_set ?_ GE313.out | refine below_set ?_ GE320.out | refine below_set ?_ GE329.out) | exact HB.out)⟩
         (try clear BK312)
         (try clear BK313)
         (try clear BK320)
         (try clear BK329)
         (try clear HB)
         generalize ((((w76.setCell ⟨gb329, 0, none⟩ (.int .i64 t325)).setCell ⟨gb329, 1, none⟩ (.int .i64 t326)).setCell ⟨gb329, 2, none⟩ (.int .i64 t327)).setCell ⟨gb329, 3, none⟩ (.int .i64 t328)) = w81 at n0_ n1_ n2_ n3_ n4_ ⊢
         have BK312 := n0_
         have BK313 := n1_
         have BK320 := n2_
         have BK329 := n3_
         have HB := n4_
         clear n0_ n1_ n2_ n3_ n4_
         have n0_ := Aside0.mk (blk_drew BK312.out)
         have n1_ := Aside0.mk (blk_drew BK313.out)
         have n2_ := Aside0.mk (blk_drew BK320.out)
         have n3_ := Aside0.mk (blk_drew BK329.out)
         have n4_ := Aside0.mk (below_drew1 HB.out)
         clear BK312
         clear BK313
         clear BK320
         clear BK329
         clear HB
         have BK312 := n0_
         have BK313 := n1_
         have BK320 := n2_
         have BK329 := n3_
         have HB := n4_
         clear n0_ n1_ n2_ n3_ n4_
         refine start_ (n := 22) (S := fun w' => w'.cell? ⟨gb313, 0, none⟩ = some (.int .i64 a1_0) ∧ w'.cell? ⟨gb313, 1, none⟩ = some (.int .i64 a1_1) ∧ w'.cell? ⟨gb313, 2, none⟩ = some (.int .i64 a1_2) ∧ w'.cell? ⟨gb313, 3, none⟩ = some (.int .i64 a1_3) ∧ w'.cell? ⟨gb329, 0, none⟩ = some (.int .i64 t325) ∧ w'.cell? ⟨gb329, 1, none⟩ = some (.int .i64 t326) ∧ w'.cell? ⟨gb329, 2, none⟩ = some (.int .i64 t327) ∧ w'.cell? ⟨gb329, 3, none⟩ = some (.int .i64 t328) ∧ w'.cell? ⟨gb320, 0, none⟩ = some (.int .i64 t316) ∧ w'.cell? ⟨gb320, 1, none⟩ = some (.int .i64 t317) ∧ w'.cell? ⟨gb320, 2, none⟩ = some (.int .i64 t318) ∧ w'.cell? ⟨gb320, 3, none⟩ = some (.int .i64 t319)) (ds := []) #[false, false, false, false, false, false, false, false, false, false, false, false, false, false, false, false, false, false, false, false, false, false] (by kernel_rfl) rfl rfl ⟨(blk_cell BK313.out 0).trans rfl, (blk_cell BK313.out 1).trans rfl, (blk_cell BK313.out 2).trans rfl, (blk_cell BK313.out 3).trans rfl, (blk_cell BK329.out 0).trans rfl, (blk_cell BK329.out 1).trans rfl, (blk_cell BK329.out 2).trans rfl, (blk_cell BK329.out 3).trans rfl, (blk_cell BK320.out 0).trans rfl, (blk_cell BK320.out 1).trans rfl, (blk_cell BK320.out 2).trans rfl, (blk_cell BK320.out 3).trans rfl⟩ (fun hHeld => ?_); refine with_tabW skiarealaw14_DriveTargets.tab13 skiarealaw14_DriveTargets.bits13 (fun HT_ HW_ => ?_)
         generalize w81.drew = w82 at BK312 BK313 BK320 BK329 HB hHeld ⊢
         refine pure_ (i := 0) (N := some 97) (v := ?_) (a' := ?_) #[true, false, false, false, false, false, false, false, false, false, false, false, false, false, false, false, false, false, false, false, false, false] rfl rfl (any_of HT_.out (by kernel_rfl)) (fun _ _ _ h => h) (Or.inl ⟨by rfl, ?_⟩) ?_ ?_
         rotate_left
         ·intro w'
          go_simp
          with_reducible rfl
         rotate_left
         ·simp only [Act.put, List.setIfInBounds_toArray, List.set_cons_zero, List.set_cons_succ, i64_w, i32_w]
          rfl
         refine take_ (i := 1) (N := some 98) (v := ?_) (a' := ?_) #[true, true, false, false, false, false, false, false, false, false, false, false, false, false, false, false, false, false, false, false, false, false] rfl rfl (take_ofW HT_.out HW_.out (by kernel_rfl)) (fun _ _ _ h => h) (Or.inl ⟨by rfl, ?_⟩) hHeld ?_ ?_
         rotate_left
         ·rintro w' ⟨s0, s1, s2, s3, s4, s5, s6, s7, s8, s9, s10, s11⟩
          go_simp
          with_reducible rfl
         rotate_left
         ·simp only [Act.put, List.setIfInBounds_toArray, List.set_cons_zero, List.set_cons_succ, i64_w, i32_w]
          rfl
         refine pure_ (i := 2) (N := some 99) (v := ?_) (a' := ?_) #[true, true, true, false, false, false, false, false, false, false, false, false, false, false, false, false, false, false, false, false, false, false] rfl rfl (any_of HT_.out (by kernel_rfl)) (fun _ _ _ h => h) (Or.inl ⟨by rfl, ?_⟩) ?_ ?_
         rotate_left
         ·intro w'
          go_simp
          with_reducible rfl
         rotate_left
         ·simp only [Act.put, List.setIfInBounds_toArray, List.set_cons_zero, List.set_cons_succ, i64_w, i32_w]
          rfl
         refine pure_ (i := 3) (N := some 100) (v := ?_) (a' := ?_) #[true, true, true, true, false, false, false, false, false, false, false, false, false, false, false, false, false, false, false, false, false, false] rfl rfl (any_of HT_.out (by kernel_rfl)) (fun _ _ _ h => h) (Or.inl ⟨by rfl, ?_⟩) ?_ ?_
         rotate_left
         ·intro w'
          go_simp
          with_reducible rfl
         rotate_left
         ·simp only [Act.put, List.setIfInBounds_toArray, List.set_cons_zero, List.set_cons_succ, i64_w, i32_w]
          rfl
         refine pure_ (i := 4) (N := some 101) (v := undef) (a' := ?_) #[true, true, true, true, true, false, false, false, false, false, false, false, false, false, false, false, false, false, false, false, false, false] rfl rfl (any_of HT_.out (by kernel_rfl)) (fun _ _ _ h => h) (Or.inr ⟨by rfl, rfl⟩) ?_ ?_
         rotate_left
         ·simp only [Act.put, List.setIfInBounds_toArray, List.set_cons_zero, List.set_cons_succ, i64_w, i32_w]
          rfl
         refine pure_ (i := 5) (N := some 102) (v := undef) (a' := ?_) #[true, true, true, true, true, true, false, false, false, false, false, false, false, false, false, false, false, false, false, false, false, false] rfl rfl (any_of HT_.out (by kernel_rfl)) (fun _ _ _ h => h) (Or.inr ⟨by rfl, rfl⟩) ?_ ?_
         rotate_left
         ·simp only [Act.put, List.setIfInBounds_toArray, List.set_cons_zero, List.set_cons_succ, i64_w, i32_w]
          rfl
         refine pure_ (i := 6) (N := some 103) (v := undef) (a' := ?_) #[true, true, true, true, true, true, true, false, false, false, false, false, false, false, false, false, false, false, false, false, false, false] rfl rfl (any_of HT_.out (by kernel_rfl)) (fun _ _ _ h => h) (Or.inr ⟨by rfl, rfl⟩) ?_ ?_
         rotate_left
         ·simp only [Act.put, List.setIfInBounds_toArray, List.set_cons_zero, List.set_cons_succ, i64_w, i32_w]
          rfl
         refine pure_ (i := 7) (N := some 104) (v := ?_) (a' := ?_) #[true, true, true, true, true, true, true, true, false, false, false, false, false, false, false, false, false, false, false, false, false, false] rfl rfl (any_of HT_.out (by kernel_rfl)) (fun _ _ _ h => h) (Or.inl ⟨by rfl, ?_⟩) ?_ ?_
         rotate_left
         ·intro w'
          go_simp
          with_reducible rfl
         rotate_left
         ·simp only [Act.put, List.setIfInBounds_toArray, List.set_cons_zero, List.set_cons_succ, i64_w, i32_w]
          rfl
         refine pure_ (i := 8) (N := some 105) (v := ?_) (a' := ?_) #[true, true, true, true, true, true, true, true, true, false, false, false, false, false, false, false, false, false, false, false, false, false] rfl rfl (any_of HT_.out (by kernel_rfl)) (fun _ _ _ h => h) (Or.inl ⟨by rfl, ?_⟩) ?_ ?_
         rotate_left
         ·intro w'
          go_simp
          with_reducible rfl
         rotate_left
         ·simp only [Act.put, List.setIfInBounds_toArray, List.set_cons_zero, List.set_cons_succ, i64_w, i32_w]
          rfl
         refine pure_ (i := 9) (N := some 106) (v := ?_) (a' := ?_) #[true, true, true, true, true, true, true, true, true, true, false, false, false, false, false, false, false, false, false, false, false, false] rfl rfl (any_of HT_.out (by kernel_rfl)) (fun _ _ _ h => h) (Or.inl ⟨by rfl, ?_⟩) ?_ ?_
         rotate_left
         ·intro w'
          go_simp
          with_reducible rfl
         rotate_left
         ·simp only [Act.put, List.setIfInBounds_toArray, List.set_cons_zero, List.set_cons_succ, i64_w, i32_w]
          rfl
         refine take_ (i := 10) (N := some 107) (v := ?_) (a' := ?_) #[true, true, true, true, true, true, true, true, true, true, true, false, false, false, false, false, false, false, false, false, false, false] rfl rfl (take_ofW HT_.out HW_.out (by kernel_rfl)) (fun _ _ _ h => h) (Or.inl ⟨by rfl, ?_⟩) hHeld ?_ ?_
         rotate_left
         ·rintro w' ⟨s0, s1, s2, s3, s4, s5, s6, s7, s8, s9, s10, s11⟩
          go_simp
          with_reducible rfl
         rotate_left
         ·simp only [Act.put, List.setIfInBounds_toArray, List.set_cons_zero, List.set_cons_succ, i64_w, i32_w]
          rfl
         refine pure_ (i := 11) (N := some 108) (v := ?_) (a' := ?_) #[true, true, true, true, true, true, true, true, true, true, true, true, false, false, false, false, false, false, false, false, false, false] rfl rfl (any_of HT_.out (by kernel_rfl)) (fun _ _ _ h => h) (Or.inl ⟨by rfl, ?_⟩) ?_ ?_
         rotate_left
         ·intro w'
          go_simp
          with_reducible rfl
         rotate_left
         ·simp only [Act.put, List.setIfInBounds_toArray, List.set_cons_zero, List.set_cons_succ, i64_w, i32_w]
          rfl
         refine pure_ (i := 12) (N := some 109) (v := ?_) (a' := ?_) #[true, true, true, true, true, true, true, true, true, true, true, true, true, false, false, false, false, false, false, false, false, false] rfl rfl (any_of HT_.out (by kernel_rfl)) (fun _ _ _ h => h) (Or.inl ⟨by rfl, ?_⟩) ?_ ?_
         rotate_left
         ·intro w'
          go_simp
          with_reducible rfl
         rotate_left
         ·simp only [Act.put, List.setIfInBounds_toArray, List.set_cons_zero, List.set_cons_succ, i64_w, i32_w]
          rfl
         refine pure_ (i := 13) (N := some 110) (v := ?_) (a' := ?_) #[true, true, true, true, true, true, true, true, true, true, true, true, true, true, false, false, false, false, false, false, false, false] rfl rfl (any_of HT_.out (by kernel_rfl)) (fun _ _ _ h => h) (Or.inl ⟨by rfl, ?_⟩) ?_ ?_
         rotate_left
         ·intro w'
          go_simp
          with_reducible rfl
         rotate_left
         ·simp only [Act.put, List.setIfInBounds_toArray, List.set_cons_zero, List.set_cons_succ, i64_w, i32_w]
          rfl
         refine pure_ (i := 17) (N := some 114) (v := ?_) (a' := ?_) #[true, true, true, true, true, true, true, true, true, true, true, true, true, true, false, false, false, true, false, false, false, false] rfl rfl (any_of HT_.out (by kernel_rfl)) (fun _ _ _ h => h) (Or.inl ⟨by rfl, ?_⟩) ?_ ?_
         rotate_left
         ·intro w'
          go_simp
          with_reducible rfl
         rotate_left
         ·simp only [Act.put, List.setIfInBounds_toArray, List.set_cons_zero, List.set_cons_succ, i64_w, i32_w]
          rfl
         refine take_ (i := 14) (N := some 111) (v := ?_) (a' := ?_) #[true, true, true, true, true, true, true, true, true, true, true, true, true, true, true, false, false, true, false, false, false, false] rfl rfl (take_ofW HT_.out HW_.out (by kernel_rfl)) (fun _ _ _ h => h) (Or.inl ⟨by rfl, ?_⟩) hHeld ?_ ?_
         rotate_left
         ·rintro w' ⟨s0, s1, s2, s3, s4, s5, s6, s7, s8, s9, s10, s11⟩
          go_simp
          with_reducible rfl
         rotate_left
         ·simp only [Act.put, List.setIfInBounds_toArray, List.set_cons_zero, List.set_cons_succ, i64_w, i32_w]
          rfl
         refine take_ (i := 15) (N := some 112) (v := ?_) (a' := ?_) #[true, true, true, true, true, true, true, true, true, true, true, true, true, true, true, true, false, true, false, false, false, false] rfl rfl (take_ofW HT_.out HW_.out (by kernel_rfl)) (fun _ _ _ h => h) (Or.inl ⟨by rfl, ?_⟩) hHeld ?_ ?_
         rotate_left
         ·rintro w' ⟨s0, s1, s2, s3, s4, s5, s6, s7, s8, s9, s10, s11⟩
          go_simp
          with_reducible rfl
         rotate_left
         ·simp only [Act.put, List.setIfInBounds_toArray, List.set_cons_zero, List.set_cons_succ, i64_w, i32_w]
          rfl
         refine take_ (i := 18) (N := some 115) (v := ?_) (a' := ?_) #[true, true, true, true, true, true, true, true, true, true, true, true, true, true, true, true, false, true, true, false, false, false] rfl rfl (take_ofW HT_.out HW_.out (by kernel_rfl)) (fun _ _ _ h => h) (Or.inl ⟨by rfl, ?_⟩) hHeld ?_ ?_
         rotate_left
         ·rintro w' ⟨s0, s1, s2, s3, s4, s5, s6, s7, s8, s9, s10, s11⟩
          go_simp
          with_reducible rfl
         rotate_left
         ·simp only [Act.put, List.setIfInBounds_toArray, List.set_cons_zero, List.set_cons_succ, i64_w, i32_w]
          rfl
         refine one_ (i := 16) (N := some 113) #[true, true, true, true, true, true, true, true, true, true, true, true, true, true, true, true, true, true, true, false, false, false] rfl rfl (one_of HT_.out (by kernel_rfl)) (by decide) (fun K hK => ?_)
         refine goes_ Try.func28 (by kernel_rfl) rfl #[.agg #[.int .i64 a1_0, .int .i64 a1_1, .int .i64 a1_2, .int .i64 a1_3], .agg #[.int .i64 t316, .int .i64 t317, .int .i64 t318, .int .i64 t319]] (by rfl) rfl rfl (by (try simp only [List.map_toArray, List.map_cons, List.map_nil]); first | done | rfl | (simp only [List.length_drop, List.length_take]; rfl)) ?_
         with_reducible refine (skiarealaw14_far.calls a1_0 a1_1 a1_2 a1_3 t316 t317 t318 t319 t330 _ A68.out).mono ?_
         rintro e w83 ⟨rfl, hb⟩
         refine ⟨_, rfl, ?_⟩
         have n0_ := Aside0.mk (bb_ BK312.out hb)
         have n1_ := Aside0.mk (bb_ BK313.out hb)
         have n2_ := Aside0.mk (bb_ BK320.out hb)
         have n3_ := Aside0.mk (bb_ BK329.out hb)
         have n4_ := Aside0.mk (below_step (by repeat (first | (with_reducible first | exact HB.out | apply below_alloc | apply pw_below_drewN | apply below_drew1 | refine below_set ?_ GE312.out | refine below_set ?_ GE313.out | refine below_set ?_ GE320.out | refine below_set ?_ GE329.out) | exact HB.out)) hb)
         clear BK312
         clear BK313
         clear BK320
         clear BK329
         clear HB
         have BK312 := n0_
         have BK313 := n1_
         have BK320 := n2_
         have BK329 := n3_
         have HB := n4_
         clear n0_ n1_ n2_ n3_ n4_
         (try clear hb)
         (try clear hb2)
         (try clear hk)
         (try clear hi)
         refine hK.out _ _ ⟨(blk_cell BK313.out 0).trans rfl, (blk_cell BK313.out 1).trans rfl, (blk_cell BK313.out 2).trans rfl, (blk_cell BK313.out 3).trans rfl, (blk_cell BK329.out 0).trans rfl, (blk_cell BK329.out 1).trans rfl, (blk_cell BK329.out 2).trans rfl, (blk_cell BK329.out 3).trans rfl, (blk_cell BK320.out 0).trans rfl, (blk_cell BK320.out 1).trans rfl, (blk_cell BK320.out 2).trans rfl, (blk_cell BK320.out 3).trans rfl⟩ (fun hHeld => ?_)
         clear hK K
         refine norm_ (a' := ?_) ?_ ?_
         rotate_left
         ·show Act.put _ (some 113) _ = _
          simp only [Act.put, List.setIfInBounds_toArray, List.set_cons_zero, List.set_cons_succ, i64_w, i32_w]
          rfl
         refine pure_ (i := 19) (N := some 116) (v := ?_) (a' := ?_) #[true, true, true, true, true, true, true, true, true, true, true, true, true, true, true, true, true, true, true, true, false, false] rfl rfl (any_of HT_.out (by kernel_rfl)) (fun _ _ _ h => h) (Or.inl ⟨by rfl, ?_⟩) ?_ ?_
         rotate_left
         ·intro w'
          go_simp
          with_reducible rfl
         rotate_left
         ·simp only [Act.put, List.setIfInBounds_toArray, List.set_cons_zero, List.set_cons_succ, i64_w, i32_w]
          rfl
         refine pure_ (i := 20) (N := some 117) (v := ?_) (a' := ?_) #[true, true, true, true, true, true, true, true, true, true, true, true, true, true, true, true, true, true, true, true, true, false] rfl rfl (any_of HT_.out (by kernel_rfl)) (fun _ _ _ h => h) (Or.inl ⟨by rfl, ?_⟩) ?_ ?_
         rotate_left
         ·intro w'
          go_simp
          with_reducible rfl
         rotate_left
         ·simp only [Act.put, List.setIfInBounds_toArray, List.set_cons_zero, List.set_cons_succ, i64_w, i32_w]
          rfl
         refine pure_ (i := 21) (N := some 4) (v := ?_) (a' := ?_) #[true, true, true, true, true, true, true, true, true, true, true, true, true, true, true, true, true, true, true, true, true, true] rfl rfl (any_of HT_.out (by kernel_rfl)) (fun _ _ _ h => h) (Or.inl ⟨by rfl, ?_⟩) ?_ ?_
         rotate_left
         ·intro w'
          go_simp
          with_reducible rfl
         rotate_left
         ·simp only [Act.put, List.setIfInBounds_toArray, List.set_cons_zero, List.set_cons_succ, i64_w, i32_w]
          rfl
         refine done_ (done_of HT_.out (by kernel_rfl)) ?_
         try go_wp2
         go_ret
         exact ⟨by first | rfl | (simp [errW_none, errW_some] <;> rfl) | (simp only [← hji8, ← hji9]; first | rfl | (simp [errW_none, errW_some] <;> rfl)) | (simp [*, errW_none, errW_some] <;> rfl), by repeat (first | (with_reducible first | exact HB.out | apply below_alloc | apply pw_below_drewN | apply below_drew1 | refine below_set ?_ GE312.out | refine below_set ?_ GE313.out | refine below_set ?_ GE320.out | refine below_set ?_ GE329.out) | exact HB.out)⟩
        ·rw [if_neg c67] at H
         exact absurd H (by simp)
       ·rw [if_neg c66] at H
        have c66b0 : (a1_0 == 3) = false := beq_eq_false_iff_ne.mpr c66
        have c66b1 : (a1_0 != 3) = true := bne_iff_ne.mpr c66
        by_cases c84 : t325 = 0
        ·rw [if_pos c84] at H
         have c84b0 : (t325 == 0) = true := beq_iff_eq.mpr c84
         have c84b1 : (t325 != 0) = false := bne_eq_false_iff_eq.mpr c84
         clear c84
         by_cases c85 : t326 = 0
         ·rw [if_pos c85] at H
          have c85b0 : (t326 == 0) = true := beq_iff_eq.mpr c85
          have c85b1 : (t326 != 0) = false := bne_eq_false_iff_eq.mpr c85
          clear c85
          replace H := Option.bind_eq_some_iff.mp H
          obtain ⟨t331, A860, H⟩ := H
          replace H : (some (t331 == t317)) = some r := H
          have A86 := Aside0.mk A860
          clear A860
          obtain rfl := Option.some.inj H
          have hnb87 := NB313_312.out
          have hnc87 := NB312_313.out
          have hnb88 := NB313_320.out
          have hnc88 := NB320_313.out
          have hcz89_0 : wc.cell? ⟨gb313, 0, none⟩ = some (.int .i64 a1_0) := (blk_cell BK313.out 0).trans rfl
          have hcz89_1 : wc.cell? ⟨gb313, 1, none⟩ = some (.int .i64 a1_1) := (blk_cell BK313.out 1).trans rfl
          have hcz89_2 : wc.cell? ⟨gb313, 2, none⟩ = some (.int .i64 a1_2) := (blk_cell BK313.out 2).trans rfl
          have hcz89_3 : wc.cell? ⟨gb313, 3, none⟩ = some (.int .i64 a1_3) := (blk_cell BK313.out 3).trans rfl
          have hfz89_0 := blk_frozen BK313.out 0
          have hfz89_1 := blk_frozen BK313.out 1
          have hfz89_2 := blk_frozen BK313.out 2
          have hfz89_3 := blk_frozen BK313.out 3
          try go_wp2
          have n0_ := Aside0.mk (blk_drew BK312.out)
          have n1_ := Aside0.mk (blk_drew BK313.out)
          have n2_ := Aside0.mk (blk_drew BK320.out)
          have n3_ := Aside0.mk (below_drew1 HB.out)
          clear BK312
          clear BK313
          clear BK320
          clear HB
          have BK312 := n0_
          have BK313 := n1_
          have BK320 := n2_
          have HB := n3_
          clear n0_ n1_ n2_ n3_
          refine start_ (n := 7) (S := fun w' => w'.cell? ⟨gb312, 0, none⟩ = some (.int .i64 a0_0) ∧ w'.cell? ⟨gb312, 1, none⟩ = some (.int .i64 a0_1) ∧ w'.cell? ⟨gb312, 2, none⟩ = some (.int .i64 a0_2) ∧ w'.cell? ⟨gb312, 3, none⟩ = some (.int .i64 a0_3) ∧ w'.cell? ⟨gb313, 0, none⟩ = some (.int .i64 a1_0) ∧ w'.cell? ⟨gb313, 1, none⟩ = some (.int .i64 a1_1) ∧ w'.cell? ⟨gb313, 2, none⟩ = some (.int .i64 a1_2) ∧ w'.cell? ⟨gb313, 3, none⟩ = some (.int .i64 a1_3)) (ds := []) #[false, false, false, false, false, false, false] (by kernel_rfl) rfl rfl ⟨(blk_cell BK312.out 0).trans rfl, (blk_cell BK312.out 1).trans rfl, (blk_cell BK312.out 2).trans rfl, (blk_cell BK312.out 3).trans rfl, (blk_cell BK313.out 0).trans rfl, (blk_cell BK313.out 1).trans rfl, (blk_cell BK313.out 2).trans rfl, (blk_cell BK313.out 3).trans rfl⟩ (fun hHeld => ?_)
          generalize wc.drew = w90 at BK312 BK313 BK320 HB hHeld ⊢
          refine take_ (i := 0) (N := some 92) (v := ?_) (a' := ?_) #[true, false, false, false, false, false, false] rfl rfl (by kernel_rfl) (fun _ _ _ h => h) (Or.inl ⟨by rfl, ?_⟩) hHeld ?_ ?_
          rotate_left
          ·rintro w' ⟨s0, s1, s2, s3, s4, s5, s6, s7⟩
           go_simp
           with_reducible rfl
          rotate_left
          ·simp only [Act.put, List.setIfInBounds_toArray, List.set_cons_zero, List.set_cons_succ, i64_w, i32_w]
           rfl
          refine take_ (i := 1) (N := some 93) (v := ?_) (a' := ?_) #[true, true, false, false, false, false, false] rfl rfl (by kernel_rfl) (fun _ _ _ h => h) (Or.inl ⟨by rfl, ?_⟩) hHeld ?_ ?_
          rotate_left
          ·rintro w' ⟨s0, s1, s2, s3, s4, s5, s6, s7⟩
           go_simp
           with_reducible rfl
          rotate_left
          ·simp only [Act.put, List.setIfInBounds_toArray, List.set_cons_zero, List.set_cons_succ, i64_w, i32_w]
           rfl
          refine take_ (i := 2) (N := some 94) (v := ?_) (a' := ?_) #[true, true, true, false, false, false, false] rfl rfl (by kernel_rfl) (fun _ _ _ h => h) (Or.inl ⟨by rfl, ?_⟩) hHeld ?_ ?_
          rotate_left
          ·rintro w' ⟨s0, s1, s2, s3, s4, s5, s6, s7⟩
           go_simp
           with_reducible rfl
          rotate_left
          ·simp only [Act.put, List.setIfInBounds_toArray, List.set_cons_zero, List.set_cons_succ, i64_w, i32_w]
           rfl
          refine join_ (σ := Nat) 1 #[true, true, true, true, true, true, false] (fun s_ => [(95, .agg #[.int .i64 t321, .int .i64 t322, .int .i64 t323, .int .i64 t324]), (96, .agg #[.int .i64 t325, .int .i64 t326, .int .i64 t327, .int .i64 t328]), (8, .pointer (some ⟨s_, 0, none⟩))]) (fun s_ w' => (w'.cell? ⟨gb312, 0, none⟩ = some (.int .i64 a0_0) ∧ w'.cell? ⟨gb312, 1, none⟩ = some (.int .i64 a0_1) ∧ w'.cell? ⟨gb312, 2, none⟩ = some (.int .i64 a0_2) ∧ w'.cell? ⟨gb312, 3, none⟩ = some (.int .i64 a0_3) ∧ w'.cell? ⟨gb313, 0, none⟩ = some (.int .i64 a1_0) ∧ w'.cell? ⟨gb313, 1, none⟩ = some (.int .i64 a1_1) ∧ w'.cell? ⟨gb313, 2, none⟩ = some (.int .i64 a1_2) ∧ w'.cell? ⟨gb313, 3, none⟩ = some (.int .i64 a1_3)) ∧ (w'.heap[gb312]? = some (.cells #[.int .i64 a0_0, .int .i64 a0_1, .int .i64 a0_2, .int .i64 a0_3] 23 (0, 0))) ∧ (w'.heap[gb313]? = some (.cells #[.int .i64 a1_0, .int .i64 a1_1, .int .i64 a1_2, .int .i64 a1_3] 25 (0, 0))) ∧ (w'.heap[gb320]? = some (.cells #[.int .i64 t316, .int .i64 t317, .int .i64 t318, .int .i64 t319] 25 (0, 0))) ∧ (w'.heap[s_]? = some (.cells #[.int .i64 0, .int .i64 0, .int .i64 0, .int .i64 0] 25 (0, 0))) ∧ (w.heap.size ≤ s_) ∧ (w.heap.size ≤ s_) ∧ (gb312 ≠ s_) ∧ (s_ ≠ gb312) ∧ (gb313 ≠ s_) ∧ (s_ ≠ gb313) ∧ (gb320 ≠ s_) ∧ (s_ ≠ gb320) ∧ (Below w.heap.size w w')) ?_ ?_
          rotate_left
          ·intro hCont
           refine two_ (i := 3) (j := 5) (Ni := some 95) (Nj := some 8) #[true, true, true, true, false, false, false] #[true, true, true, false, false, true, false] rfl rfl rfl rfl (by kernel_rfl) (by decide) (by decide) (fun K hK => ?_) (fun K hK => ?_)
           ·skip
            refine goes_ Try.func20 (by kernel_rfl) rfl #[.agg #[.int .i64 a0_0, .int .i64 a0_1, .int .i64 a0_2, .int .i64 a0_3], .agg #[.int .i64 a1_0, .int .i64 a1_1, .int .i64 a1_2, .int .i64 a1_3]] (by rfl) rfl rfl (by (try simp only [List.map_toArray, List.map_cons, List.map_nil]); first | done | rfl | (simp only [List.length_drop, List.length_take]; rfl)) ?_
            with_reducible refine (drive_Halt.calls a0_0 a0_1 a0_2 a0_3 a1_0 a1_1 a1_2 a1_3 t321 t322 t323 t324 _ A64.out).mono ?_
            rintro e w91 ⟨rfl, hb⟩
            refine ⟨_, rfl, ?_⟩
            have n0_ := Aside0.mk (bb_ BK312.out hb)
            have n1_ := Aside0.mk (bb_ BK313.out hb)
            have n2_ := Aside0.mk (bb_ BK320.out hb)
            have n3_ := Aside0.mk (below_step (by repeat (first | (with_reducible first | exact HB.out | apply below_alloc | apply pw_below_drewN | apply below_drew1 | refine below_set ?_ GE312.out | refine below_set ?_ GE313.out | refine below_set ?_ GE320.out) | exact HB.out)) hb)
            clear BK312
            clear BK313
            clear BK320
            clear HB
            have BK312 := n0_
            have BK313 := n1_
            have BK320 := n2_
            have HB := n3_
            clear n0_ n1_ n2_ n3_
            (try clear hb)
            (try clear hb2)
            (try clear hk)
            (try clear hi)
            refine hK.out _ _ ⟨(blk_cell BK312.out 0).trans rfl, (blk_cell BK312.out 1).trans rfl, (blk_cell BK312.out 2).trans rfl, (blk_cell BK312.out 3).trans rfl, (blk_cell BK313.out 0).trans rfl, (blk_cell BK313.out 1).trans rfl, (blk_cell BK313.out 2).trans rfl, (blk_cell BK313.out 3).trans rfl⟩ (fun hHeld => ?_)
            clear hK K
            refine norm_ (a' := ?_) ?_ ?_
            rotate_left
            ·show Act.put _ (some 95) _ = _
             simp only [Act.put, List.setIfInBounds_toArray, List.set_cons_zero, List.set_cons_succ, i64_w, i32_w]
             rfl
            refine two_ (i := 4) (j := 5) (Ni := some 96) (Nj := some 8) #[true, true, true, true, true, false, false] #[true, true, true, true, false, true, false] rfl rfl rfl rfl (by kernel_rfl) (by decide) (by decide) (fun K hK => ?_) (fun K hK => ?_)
            ·skip
             refine goes_ Try.func24 (by kernel_rfl) rfl #[.agg #[.int .i64 a0_0, .int .i64 a0_1, .int .i64 a0_2, .int .i64 a0_3], .agg #[.int .i64 t321, .int .i64 t322, .int .i64 t323, .int .i64 t324], .int .i64 240] (by rfl) rfl rfl (by (try simp only [List.map_toArray, List.map_cons, List.map_nil]); first | done | rfl | (simp only [List.length_drop, List.length_take]; rfl)) ?_
             with_reducible refine (drive_Step.calls kj9 a0_0 a0_1 a0_2 a0_3 t321 t322 t323 t324 240 t325 t326 t327 t328 _ A65.out).mono ?_
             rintro e w92 ⟨rfl, hb⟩
             refine ⟨_, rfl, ?_⟩
             have n0_ := Aside0.mk (bb_ BK312.out hb)
             have n1_ := Aside0.mk (bb_ BK313.out hb)
             have n2_ := Aside0.mk (bb_ BK320.out hb)
             have n3_ := Aside0.mk (below_step (by repeat (first | (with_reducible first | exact HB.out | apply below_alloc | apply pw_below_drewN | apply below_drew1 | refine below_set ?_ GE312.out | refine below_set ?_ GE313.out | refine below_set ?_ GE320.out) | exact HB.out)) hb)
             clear BK312
             clear BK313
             clear BK320
             clear HB
             have BK312 := n0_
             have BK313 := n1_
             have BK320 := n2_
             have HB := n3_
             clear n0_ n1_ n2_ n3_
             (try clear hb)
             (try clear hb2)
             (try clear hk)
             (try clear hi)
             refine hK.out _ _ ⟨(blk_cell BK312.out 0).trans rfl, (blk_cell BK312.out 1).trans rfl, (blk_cell BK312.out 2).trans rfl, (blk_cell BK312.out 3).trans rfl, (blk_cell BK313.out 0).trans rfl, (blk_cell BK313.out 1).trans rfl, (blk_cell BK313.out 2).trans rfl, (blk_cell BK313.out 3).trans rfl⟩ (fun hHeld => ?_)
             clear hK K
             refine norm_ (a' := ?_) ?_ ?_
             rotate_left
             ·show Act.put _ (some 96) _ = _
              simp only [Act.put, List.setIfInBounds_toArray, List.set_cons_zero, List.set_cons_succ, i64_w, i32_w]
              rfl
             refine one_ (i := 5) (N := some 8) #[true, true, true, true, true, true, false] rfl rfl (by kernel_rfl) (by decide) (fun K hK => ?_)
             refine box_step ?hg (N := 8) ?hd (cs := #[.int .i64 0, .int .i64 0, .int .i64 0, .int .i64 0]) (t := 25) ?hr ?_; (case hd => rfl); (case hg => rfl); (case hr => first | (go_simp; done) | (go_simp; rfl))
             intro gb329 hg w93 hbox hb
             have n0_ := Aside0.mk (bb_ BK312.out hb)
             have n1_ := Aside0.mk (bb_ BK313.out hb)
             have n2_ := Aside0.mk (bb_ BK320.out hb)
             have n3_ := Aside0.mk (below_step (by repeat (first | (with_reducible first | exact HB.out | apply below_alloc | apply pw_below_drewN | apply below_drew1 | refine below_set ?_ GE312.out | refine below_set ?_ GE313.out | refine below_set ?_ GE320.out) | exact HB.out)) hb)
             have n4_ := Aside0.mk (hbox)
             have n5_ := Aside0.mk ((by rw [hg]; exact (below_size (by repeat (first | (with_reducible first | exact HB.out | apply below_alloc | apply pw_below_drewN | apply below_drew1 | refine below_set ?_ GE312.out | refine below_set ?_ GE313.out | refine below_set ?_ GE320.out) | exact HB.out))) : w.heap.size ≤ gb329))
             have n6_ := Aside0.mk ((by rw [hg]; exact (below_size (by repeat (first | (with_reducible first | exact HB.out | apply below_alloc | apply pw_below_drewN | apply below_drew1 | refine below_set ?_ GE312.out | refine below_set ?_ GE313.out | refine below_set ?_ GE320.out) | exact HB.out))) : w.heap.size ≤ gb329))
             have n7_ := Aside0.mk ((by rw [hg]; exact Nat.ne_of_lt (blk_lt (g := gb312) (o := .cells #[.int .i64 a0_0, .int .i64 a0_1, .int .i64 a0_2, .int .i64 a0_3] 23 (0, 0)) (by (with_reducible repeat (first | refine blk_drewN ?_ _ | refine blk_drew ?_ | refine blk_alloc ?_ _)); exact BK312.out)) : gb312 ≠ gb329))
             have n8_ := Aside0.mk ((by rw [hg]; exact Nat.ne_of_gt (blk_lt (g := gb312) (o := .cells #[.int .i64 a0_0, .int .i64 a0_1, .int .i64 a0_2, .int .i64 a0_3] 23 (0, 0)) (by (with_reducible repeat (first | refine blk_drewN ?_ _ | refine blk_drew ?_ | refine blk_alloc ?_ _)); exact BK312.out)) : gb329 ≠ gb312))
             have n9_ := Aside0.mk ((by rw [hg]; exact Nat.ne_of_lt (blk_lt (g := gb313) (o := .cells #[.int .i64 a1_0, .int .i64 a1_1, .int .i64 a1_2, .int .i64 a1_3] 25 (0, 0)) (by (with_reducible repeat (first | refine blk_drewN ?_ _ | refine blk_drew ?_ | refine blk_alloc ?_ _)); exact BK313.out)) : gb313 ≠ gb329))
             have n10_ := Aside0.mk ((by rw [hg]; exact Nat.ne_of_gt (blk_lt (g := gb313) (o := .cells #[.int .i64 a1_0, .int .i64 a1_1, .int .i64 a1_2, .int .i64 a1_3] 25 (0, 0)) (by (with_reducible repeat (first | refine blk_drewN ?_ _ | refine blk_drew ?_ | refine blk_alloc ?_ _)); exact BK313.out)) : gb329 ≠ gb313))
             have n11_ := Aside0.mk ((by rw [hg]; exact Nat.ne_of_lt (blk_lt (g := gb320) (o := .cells #[.int .i64 t316, .int .i64 t317, .int .i64 t318, .int .i64 t319] 25 (0, 0)) (by (with_reducible repeat (first | refine blk_drewN ?_ _ | refine blk_drew ?_ | refine blk_alloc ?_ _)); exact BK320.out)) : gb320 ≠ gb329))
             have n12_ := Aside0.mk ((by rw [hg]; exact Nat.ne_of_gt (blk_lt (g := gb320) (o := .cells #[.int .i64 t316, .int .i64 t317, .int .i64 t318, .int .i64 t319] 25 (0, 0)) (by (with_reducible repeat (first | refine blk_drewN ?_ _ | refine blk_drew ?_ | refine blk_alloc ?_ _)); exact BK320.out)) : gb329 ≠ gb320))
             clear BK312
             clear BK313
             clear BK320
             clear HB
             have BK312 := n0_
             have BK313 := n1_
             have BK320 := n2_
             have HB := n3_
             have BK329 := n4_
             have GW329 := n5_
             have GE329 := n6_
             have NB312_329 := n7_
             have NB329_312 := n8_
             have NB313_329 := n9_
             have NB329_313 := n10_
             have NB320_329 := n11_
             have NB329_320 := n12_
             clear n0_ n1_ n2_ n3_ n4_ n5_ n6_ n7_ n8_ n9_ n10_ n11_ n12_
             clear hb hbox hg
             refine hK.out _ _ ⟨(blk_cell BK312.out 0).trans rfl, (blk_cell BK312.out 1).trans rfl, (blk_cell BK312.out 2).trans rfl, (blk_cell BK312.out 3).trans rfl, (blk_cell BK313.out 0).trans rfl, (blk_cell BK313.out 1).trans rfl, (blk_cell BK313.out 2).trans rfl, (blk_cell BK313.out 3).trans rfl⟩ (fun hHeld => ?_)
             clear hK K
             refine norm_ (a' := ?_) ?_ ?_
             rotate_left
             ·show Act.put _ (some 8) _ = _
              simp only [Act.put, List.setIfInBounds_toArray, List.set_cons_zero, List.set_cons_succ, i64_w, i32_w]
              rfl
             exact norm_ (by simp only [putAll, Act.put, List.setIfInBounds_toArray, List.set_cons_zero, List.set_cons_succ]) (hCont (gb329) _ ⟨hHeld, (by (with_reducible repeat (first | refine blk_drewN ?_ _ | refine blk_drew ?_ | refine blk_alloc ?_ _)); exact BK312.out), (by (with_reducible repeat (first | refine blk_drewN ?_ _ | refine blk_drew ?_ | refine blk_alloc ?_ _)); exact BK313.out), (by (with_reducible repeat (first | refine blk_drewN ?_ _ | refine blk_drew ?_ | refine blk_alloc ?_ _)); exact BK320.out), (by (with_reducible repeat (first | refine blk_drewN ?_ _ | refine blk_drew ?_ | refine blk_alloc ?_ _)); exact BK329.out), GW329.out, GE329.out, NB312_329.out, NB329_312.out, NB313_329.out, NB329_313.out, NB320_329.out, NB329_320.out, (by repeat (first | (with_reducible first | exact HB.out | apply below_alloc | apply pw_below_drewN | apply below_drew1 | refine below_set ?_ GE312.out | refine below_set ?_ GE313.out | refine below_set ?_ GE320.out | refine below_set ?_ GE329.out) | exact HB.out))⟩)
            ·skip
             refine box_step ?hg (N := 8) ?hd (cs := #[.int .i64 0, .int .i64 0, .int .i64 0, .int .i64 0]) (t := 25) ?hr ?_; (case hd => rfl); (case hg => rfl); (case hr => first | (go_simp; done) | (go_simp; rfl))
             intro gb329 hg w92 hbox hb
             have n0_ := Aside0.mk (bb_ BK312.out hb)
             have n1_ := Aside0.mk (bb_ BK313.out hb)
             have n2_ := Aside0.mk (bb_ BK320.out hb)
             have n3_ := Aside0.mk (below_step (by repeat (first | (with_reducible first | exact HB.out | apply below_alloc | apply pw_below_drewN | apply below_drew1 | refine below_set ?_ GE312.out | refine below_set ?_ GE313.out | refine below_set ?_ GE320.out) | exact HB.out)) hb)
             have n4_ := Aside0.mk (hbox)
             have n5_ := Aside0.mk ((by rw [hg]; exact (below_size (by repeat (first | (with_reducible first | exact HB.out | apply below_alloc | apply pw_below_drewN | apply below_drew1 | refine below_set ?_ GE312.out | refine below_set ?_ GE313.out | refine below_set ?_ GE320.out) | exact HB.out))) : w.heap.size ≤ gb329))
             have n6_ := Aside0.mk ((by rw [hg]; exact (below_size (by repeat (first | (with_reducible first | exact HB.out | apply below_alloc | apply pw_below_drewN | apply below_drew1 | refine below_set ?_ GE312.out | refine below_set ?_ GE313.out | refine below_set ?_ GE320.out) | exact HB.out))) : w.heap.size ≤ gb329))
             have n7_ := Aside0.mk ((by rw [hg]; exact Nat.ne_of_lt (blk_lt (g := gb312) (o := .cells #[.int .i64 a0_0, .int .i64 a0_1, .int .i64 a0_2, .int .i64 a0_3] 23 (0, 0)) (by (with_reducible repeat (first | refine blk_drewN ?_ _ | refine blk_drew ?_ | refine blk_alloc ?_ _)); exact BK312.out)) : gb312 ≠ gb329))
             have n8_ := Aside0.mk ((by rw [hg]; exact Nat.ne_of_gt (blk_lt (g := gb312) (o := .cells #[.int .i64 a0_0, .int .i64 a0_1, .int .i64 a0_2, .int .i64 a0_3] 23 (0, 0)) (by (with_reducible repeat (first | refine blk_drewN ?_ _ | refine blk_drew ?_ | refine blk_alloc ?_ _)); exact BK312.out)) : gb329 ≠ gb312))
             have n9_ := Aside0.mk ((by rw [hg]; exact Nat.ne_of_lt (blk_lt (g := gb313) (o := .cells #[.int .i64 a1_0, .int .i64 a1_1, .int .i64 a1_2, .int .i64 a1_3] 25 (0, 0)) (by (with_reducible repeat (first | refine blk_drewN ?_ _ | refine blk_drew ?_ | refine blk_alloc ?_ _)); exact BK313.out)) : gb313 ≠ gb329))
             have n10_ := Aside0.mk ((by rw [hg]; exact Nat.ne_of_gt (blk_lt (g := gb313) (o := .cells #[.int .i64 a1_0, .int .i64 a1_1, .int .i64 a1_2, .int .i64 a1_3] 25 (0, 0)) (by (with_reducible repeat (first | refine blk_drewN ?_ _ | refine blk_drew ?_ | refine blk_alloc ?_ _)); exact BK313.out)) : gb329 ≠ gb313))
             have n11_ := Aside0.mk ((by rw [hg]; exact Nat.ne_of_lt (blk_lt (g := gb320) (o := .cells #[.int .i64 t316, .int .i64 t317, .int .i64 t318, .int .i64 t319] 25 (0, 0)) (by (with_reducible repeat (first | refine blk_drewN ?_ _ | refine blk_drew ?_ | refine blk_alloc ?_ _)); exact BK320.out)) : gb320 ≠ gb329))
             have n12_ := Aside0.mk ((by rw [hg]; exact Nat.ne_of_gt (blk_lt (g := gb320) (o := .cells #[.int .i64 t316, .int .i64 t317, .int .i64 t318, .int .i64 t319] 25 (0, 0)) (by (with_reducible repeat (first | refine blk_drewN ?_ _ | refine blk_drew ?_ | refine blk_alloc ?_ _)); exact BK320.out)) : gb329 ≠ gb320))
             clear BK312
             clear BK313
             clear BK320
             clear HB
             have BK312 := n0_
             have BK313 := n1_
             have BK320 := n2_
             have HB := n3_
             have BK329 := n4_
             have GW329 := n5_
             have GE329 := n6_
             have NB312_329 := n7_
             have NB329_312 := n8_
             have NB313_329 := n9_
             have NB329_313 := n10_
             have NB320_329 := n11_
             have NB329_320 := n12_
             clear n0_ n1_ n2_ n3_ n4_ n5_ n6_ n7_ n8_ n9_ n10_ n11_ n12_
             clear hb hbox hg
             refine hK.out _ _ ⟨(blk_cell BK312.out 0).trans rfl, (blk_cell BK312.out 1).trans rfl, (blk_cell BK312.out 2).trans rfl, (blk_cell BK312.out 3).trans rfl, (blk_cell BK313.out 0).trans rfl, (blk_cell BK313.out 1).trans rfl, (blk_cell BK313.out 2).trans rfl, (blk_cell BK313.out 3).trans rfl⟩ (fun hHeld => ?_)
             clear hK K
             refine norm_ (a' := ?_) ?_ ?_
             rotate_left
             ·show Act.put _ (some 8) _ = _
              simp only [Act.put, List.setIfInBounds_toArray, List.set_cons_zero, List.set_cons_succ, i64_w, i32_w]
              rfl
             refine one_ (i := 4) (N := some 96) #[true, true, true, true, true, true, false] rfl rfl (by kernel_rfl) (by decide) (fun K hK => ?_)
             refine goes_ Try.func24 (by kernel_rfl) rfl #[.agg #[.int .i64 a0_0, .int .i64 a0_1, .int .i64 a0_2, .int .i64 a0_3], .agg #[.int .i64 t321, .int .i64 t322, .int .i64 t323, .int .i64 t324], .int .i64 240] (by rfl) rfl rfl (by (try simp only [List.map_toArray, List.map_cons, List.map_nil]); first | done | rfl | (simp only [List.length_drop, List.length_take]; rfl)) ?_
             with_reducible refine (drive_Step.calls kj9 a0_0 a0_1 a0_2 a0_3 t321 t322 t323 t324 240 t325 t326 t327 t328 _ A65.out).mono ?_
             rintro e w93 ⟨rfl, hb⟩
             refine ⟨_, rfl, ?_⟩
             have n0_ := Aside0.mk (bb_ BK312.out hb)
             have n1_ := Aside0.mk (bb_ BK313.out hb)
             have n2_ := Aside0.mk (bb_ BK320.out hb)
             have n3_ := Aside0.mk (bb_ BK329.out hb)
             have n4_ := Aside0.mk (below_step (by repeat (first | (with_reducible first | exact HB.out | apply below_alloc | apply pw_below_drewN | apply below_drew1 | refine below_set ?_ GE312.out | refine below_set ?_ GE313.out | refine below_set ?_ GE320.out | refine below_set ?_ GE329.out) | exact HB.out)) hb)
             clear BK312
             clear BK313
             clear BK320
             clear BK329
             clear HB
             have BK312 := n0_
             have BK313 := n1_
             have BK320 := n2_
             have BK329 := n3_
             have HB := n4_
             clear n0_ n1_ n2_ n3_ n4_
             (try clear hb)
             (try clear hb2)
             (try clear hk)
             (try clear hi)
             refine hK.out _ _ ⟨(blk_cell BK312.out 0).trans rfl, (blk_cell BK312.out 1).trans rfl, (blk_cell BK312.out 2).trans rfl, (blk_cell BK312.out 3).trans rfl, (blk_cell BK313.out 0).trans rfl, (blk_cell BK313.out 1).trans rfl, (blk_cell BK313.out 2).trans rfl, (blk_cell BK313.out 3).trans rfl⟩ (fun hHeld => ?_)
             clear hK K
             refine norm_ (a' := ?_) ?_ ?_
             rotate_left
             ·show Act.put _ (some 96) _ = _
              simp only [Act.put, List.setIfInBounds_toArray, List.set_cons_zero, List.set_cons_succ, i64_w, i32_w]
              rfl
             exact norm_ (by simp only [putAll, Act.put, List.setIfInBounds_toArray, List.set_cons_zero, List.set_cons_succ]) (hCont (gb329) _ ⟨hHeld, (by (with_reducible repeat (first | refine blk_drewN ?_ _ | refine blk_drew ?_ | refine blk_alloc ?_ _)); exact BK312.out), (by (with_reducible repeat (first | refine blk_drewN ?_ _ | refine blk_drew ?_ | refine blk_alloc ?_ _)); exact BK313.out), (by (with_reducible repeat (first | refine blk_drewN ?_ _ | refine blk_drew ?_ | refine blk_alloc ?_ _)); exact BK320.out), (by (with_reducible repeat (first | refine blk_drewN ?_ _ | refine blk_drew ?_ | refine blk_alloc ?_ _)); exact BK329.out), GW329.out, GE329.out, NB312_329.out, NB329_312.out, NB313_329.out, NB329_313.out, NB320_329.out, NB329_320.out, (by repeat (first | (with_reducible first | exact HB.out | apply below_alloc | apply pw_below_drewN | apply below_drew1 | refine below_set ?_ GE312.out | refine below_set ?_ GE313.out | refine below_set ?_ GE320.out | refine below_set ?_ GE329.out) | exact HB.out))⟩)
           ·skip
            refine box_step ?hg (N := 8) ?hd (cs := #[.int .i64 0, .int .i64 0, .int .i64 0, .int .i64 0]) (t := 25) ?hr ?_; (case hd => rfl); (case hg => rfl); (case hr => first | (go_simp; done) | (go_simp; rfl))
            intro gb329 hg w91 hbox hb
            have n0_ := Aside0.mk (bb_ BK312.out hb)
            have n1_ := Aside0.mk (bb_ BK313.out hb)
            have n2_ := Aside0.mk (bb_ BK320.out hb)
            have n3_ := Aside0.mk (below_step (by repeat (first | (with_reducible first | exact HB.out | apply below_alloc | apply pw_below_drewN | apply below_drew1 | refine below_set ?_ GE312.out | refine below_set ?_ GE313.out | refine below_set ?_ GE320.out) | exact HB.out)) hb)
            have n4_ := Aside0.mk (hbox)
            have n5_ := Aside0.mk ((by rw [hg]; exact (below_size (by repeat (first | (with_reducible first | exact HB.out | apply below_alloc | apply pw_below_drewN | apply below_drew1 | refine below_set ?_ GE312.out | refine below_set ?_ GE313.out | refine below_set ?_ GE320.out) | exact HB.out))) : w.heap.size ≤ gb329))
            have n6_ := Aside0.mk ((by rw [hg]; exact (below_size (by repeat (first | (with_reducible first | exact HB.out | apply below_alloc | apply pw_below_drewN | apply below_drew1 | refine below_set ?_ GE312.out | refine below_set ?_ GE313.out | refine below_set ?_ GE320.out) | exact HB.out))) : w.heap.size ≤ gb329))
            have n7_ := Aside0.mk ((by rw [hg]; exact Nat.ne_of_lt (blk_lt (g := gb312) (o := .cells #[.int .i64 a0_0, .int .i64 a0_1, .int .i64 a0_2, .int .i64 a0_3] 23 (0, 0)) (by (with_reducible repeat (first | refine blk_drewN ?_ _ | refine blk_drew ?_ | refine blk_alloc ?_ _)); exact BK312.out)) : gb312 ≠ gb329))
            have n8_ := Aside0.mk ((by rw [hg]; exact Nat.ne_of_gt (blk_lt (g := gb312) (o := .cells #[.int .i64 a0_0, .int .i64 a0_1, .int .i64 a0_2, .int .i64 a0_3] 23 (0, 0)) (by (with_reducible repeat (first | refine blk_drewN ?_ _ | refine blk_drew ?_ | refine blk_alloc ?_ _)); exact BK312.out)) : gb329 ≠ gb312))
            have n9_ := Aside0.mk ((by rw [hg]; exact Nat.ne_of_lt (blk_lt (g := gb313) (o := .cells #[.int .i64 a1_0, .int .i64 a1_1, .int .i64 a1_2, .int .i64 a1_3] 25 (0, 0)) (by (with_reducible repeat (first | refine blk_drewN ?_ _ | refine blk_drew ?_ | refine blk_alloc ?_ _)); exact BK313.out)) : gb313 ≠ gb329))
            have n10_ := Aside0.mk ((by rw [hg]; exact Nat.ne_of_gt (blk_lt (g := gb313) (o := .cells #[.int .i64 a1_0, .int .i64 a1_1, .int .i64 a1_2, .int .i64 a1_3] 25 (0, 0)) (by (with_reducible repeat (first | refine blk_drewN ?_ _ | refine blk_drew ?_ | refine blk_alloc ?_ _)); exact BK313.out)) : gb329 ≠ gb313))
            have n11_ := Aside0.mk ((by rw [hg]; exact Nat.ne_of_lt (blk_lt (g := gb320) (o := .cells #[.int .i64 t316, .int .i64 t317, .int .i64 t318, .int .i64 t319] 25 (0, 0)) (by (with_reducible repeat (first | refine blk_drewN ?_ _ | refine blk_drew ?_ | refine blk_alloc ?_ _)); exact BK320.out)) : gb320 ≠ gb329))
            have n12_ := Aside0.mk ((by rw [hg]; exact Nat.ne_of_gt (blk_lt (g := gb320) (o := .cells #[.int .i64 t316, .int .i64 t317, .int .i64 t318, .int .i64 t319] 25 (0, 0)) (by (with_reducible repeat (first | refine blk_drewN ?_ _ | refine blk_drew ?_ | refine blk_alloc ?_ _)); exact BK320.out)) : gb329 ≠ gb320))
            clear BK312
            clear BK313
            clear BK320
            clear HB
            have BK312 := n0_
            have BK313 := n1_
            have BK320 := n2_
            have HB := n3_
            have BK329 := n4_
            have GW329 := n5_
            have GE329 := n6_
            have NB312_329 := n7_
            have NB329_312 := n8_
            have NB313_329 := n9_
            have NB329_313 := n10_
            have NB320_329 := n11_
            have NB329_320 := n12_
            clear n0_ n1_ n2_ n3_ n4_ n5_ n6_ n7_ n8_ n9_ n10_ n11_ n12_
            clear hb hbox hg
            refine hK.out _ _ ⟨(blk_cell BK312.out 0).trans rfl, (blk_cell BK312.out 1).trans rfl, (blk_cell BK312.out 2).trans rfl, (blk_cell BK312.out 3).trans rfl, (blk_cell BK313.out 0).trans rfl, (blk_cell BK313.out 1).trans rfl, (blk_cell BK313.out 2).trans rfl, (blk_cell BK313.out 3).trans rfl⟩ (fun hHeld => ?_)
            clear hK K
            refine norm_ (a' := ?_) ?_ ?_
            rotate_left
            ·show Act.put _ (some 8) _ = _
             simp only [Act.put, List.setIfInBounds_toArray, List.set_cons_zero, List.set_cons_succ, i64_w, i32_w]
             rfl
            refine one_ (i := 3) (N := some 95) #[true, true, true, true, false, true, false] rfl rfl (by kernel_rfl) (by decide) (fun K hK => ?_)
            refine goes_ Try.func20 (by kernel_rfl) rfl #[.agg #[.int .i64 a0_0, .int .i64 a0_1, .int .i64 a0_2, .int .i64 a0_3], .agg #[.int .i64 a1_0, .int .i64 a1_1, .int .i64 a1_2, .int .i64 a1_3]] (by rfl) rfl rfl (by (try simp only [List.map_toArray, List.map_cons, List.map_nil]); first | done | rfl | (simp only [List.length_drop, List.length_take]; rfl)) ?_
            with_reducible refine (drive_Halt.calls a0_0 a0_1 a0_2 a0_3 a1_0 a1_1 a1_2 a1_3 t321 t322 t323 t324 _ A64.out).mono ?_
            rintro e w92 ⟨rfl, hb⟩
            refine ⟨_, rfl, ?_⟩
            have n0_ := Aside0.mk (bb_ BK312.out hb)
            have n1_ := Aside0.mk (bb_ BK313.out hb)
            have n2_ := Aside0.mk (bb_ BK320.out hb)
            have n3_ := Aside0.mk (bb_ BK329.out hb)
            have n4_ := Aside0.mk (below_step (by repeat (first | (with_reducible first | exact HB.out | apply below_alloc | apply pw_below_drewN | apply below_drew1 | refine below_set ?_ GE312.out | refine below_set ?_ GE313.out | refine below_set ?_ GE320.out | refine below_set ?_ GE329.out) | exact HB.out)) hb)
            clear BK312
            clear BK313
            clear BK320
            clear BK329
            clear HB
            have BK312 := n0_
            have BK313 := n1_
            have BK320 := n2_
            have BK329 := n3_
            have HB := n4_
            clear n0_ n1_ n2_ n3_ n4_
            (try clear hb)
            (try clear hb2)
            (try clear hk)
            (try clear hi)
            refine hK.out _ _ ⟨(blk_cell BK312.out 0).trans rfl, (blk_cell BK312.out 1).trans rfl, (blk_cell BK312.out 2).trans rfl, (blk_cell BK312.out 3).trans rfl, (blk_cell BK313.out 0).trans rfl, (blk_cell BK313.out 1).trans rfl, (blk_cell BK313.out 2).trans rfl, (blk_cell BK313.out 3).trans rfl⟩ (fun hHeld => ?_)
            clear hK K
            refine norm_ (a' := ?_) ?_ ?_
            rotate_left
            ·show Act.put _ (some 95) _ = _
             simp only [Act.put, List.setIfInBounds_toArray, List.set_cons_zero, List.set_cons_succ, i64_w, i32_w]
             rfl
            refine one_ (i := 4) (N := some 96) #[true, true, true, true, true, true, false] rfl rfl (by kernel_rfl) (by decide) (fun K hK => ?_)
            refine goes_ Try.func24 (by kernel_rfl) rfl #[.agg #[.int .i64 a0_0, .int .i64 a0_1, .int .i64 a0_2, .int .i64 a0_3], .agg #[.int .i64 t321, .int .i64 t322, .int .i64 t323, .int .i64 t324], .int .i64 240] (by rfl) rfl rfl (by (try simp only [List.map_toArray, List.map_cons, List.map_nil]); first | done | rfl | (simp only [List.length_drop, List.length_take]; rfl)) ?_
            with_reducible refine (drive_Step.calls kj9 a0_0 a0_1 a0_2 a0_3 t321 t322 t323 t324 240 t325 t326 t327 t328 _ A65.out).mono ?_
            rintro e w93 ⟨rfl, hb⟩
            refine ⟨_, rfl, ?_⟩
            have n0_ := Aside0.mk (bb_ BK312.out hb)
            have n1_ := Aside0.mk (bb_ BK313.out hb)
            have n2_ := Aside0.mk (bb_ BK320.out hb)
            have n3_ := Aside0.mk (bb_ BK329.out hb)
            have n4_ := Aside0.mk (below_step (by repeat (first | (with_reducible first | exact HB.out | apply below_alloc | apply pw_below_drewN | apply below_drew1 | refine below_set ?_ GE312.out | refine below_set ?_ GE313.out | refine below_set ?_ GE320.out | refine below_set ?_ GE329.out) | exact HB.out)) hb)
            clear BK312
            clear BK313
            clear BK320
            clear BK329
            clear HB
            have BK312 := n0_
            have BK313 := n1_
            have BK320 := n2_
            have BK329 := n3_
            have HB := n4_
            clear n0_ n1_ n2_ n3_ n4_
            (try clear hb)
            (try clear hb2)
            (try clear hk)
            (try clear hi)
            refine hK.out _ _ ⟨(blk_cell BK312.out 0).trans rfl, (blk_cell BK312.out 1).trans rfl, (blk_cell BK312.out 2).trans rfl, (blk_cell BK312.out 3).trans rfl, (blk_cell BK313.out 0).trans rfl, (blk_cell BK313.out 1).trans rfl, (blk_cell BK313.out 2).trans rfl, (blk_cell BK313.out 3).trans rfl⟩ (fun hHeld => ?_)
            clear hK K
            refine norm_ (a' := ?_) ?_ ?_
            rotate_left
            ·show Act.put _ (some 96) _ = _
             simp only [Act.put, List.setIfInBounds_toArray, List.set_cons_zero, List.set_cons_succ, i64_w, i32_w]
             rfl
            exact norm_ (by simp only [putAll, Act.put, List.setIfInBounds_toArray, List.set_cons_zero, List.set_cons_succ]) (hCont (gb329) _ ⟨hHeld, (by (with_reducible repeat (first | refine blk_drewN ?_ _ | refine blk_drew ?_ | refine blk_alloc ?_ _)); exact BK312.out), (by (with_reducible repeat (first | refine blk_drewN ?_ _ | refine blk_drew ?_ | refine blk_alloc ?_ _)); exact BK313.out), (by (with_reducible repeat (first | refine blk_drewN ?_ _ | refine blk_drew ?_ | refine blk_alloc ?_ _)); exact BK320.out), (by (with_reducible repeat (first | refine blk_drewN ?_ _ | refine blk_drew ?_ | refine blk_alloc ?_ _)); exact BK329.out), GW329.out, GE329.out, NB312_329.out, NB329_312.out, NB313_329.out, NB329_313.out, NB320_329.out, NB329_320.out, (by repeat (first | (with_reducible first | exact HB.out | apply below_alloc | apply pw_below_drewN | apply below_drew1 | refine below_set ?_ GE312.out | refine below_set ?_ GE313.out | refine below_set ?_ GE320.out | refine below_set ?_ GE329.out) | exact HB.out))⟩)
          rintro gb329 w94 ⟨hS_, h0_, h1_, h2_, h3_, h4_, h5_, h6_, h7_, h8_, h9_, h10_, h11_, h12_⟩
          have n0_ : Aside0 (w94.heap[gb312]? = some (.cells #[.int .i64 a0_0, .int .i64 a0_1, .int .i64 a0_2, .int .i64 a0_3] 23 (0, 0))) := ⟨h0_⟩
          have n1_ : Aside0 (w94.heap[gb313]? = some (.cells #[.int .i64 a1_0, .int .i64 a1_1, .int .i64 a1_2, .int .i64 a1_3] 25 (0, 0))) := ⟨h1_⟩
          have n2_ : Aside0 (w94.heap[gb320]? = some (.cells #[.int .i64 t316, .int .i64 t317, .int .i64 t318, .int .i64 t319] 25 (0, 0))) := ⟨h2_⟩
          have n3_ : Aside0 (w94.heap[gb329]? = some (.cells #[.int .i64 0, .int .i64 0, .int .i64 0, .int .i64 0] 25 (0, 0))) := ⟨h3_⟩
          have n4_ : Aside0 (w.heap.size ≤ gb329) := ⟨h4_⟩
          have n5_ : Aside0 (w.heap.size ≤ gb329) := ⟨h5_⟩
          have n6_ : Aside0 (gb312 ≠ gb329) := ⟨h6_⟩
          have n7_ : Aside0 (gb329 ≠ gb312) := ⟨h7_⟩
          have n8_ : Aside0 (gb313 ≠ gb329) := ⟨h8_⟩
          have n9_ : Aside0 (gb329 ≠ gb313) := ⟨h9_⟩
          have n10_ : Aside0 (gb320 ≠ gb329) := ⟨h10_⟩
          have n11_ : Aside0 (gb329 ≠ gb320) := ⟨h11_⟩
          have n12_ : Aside0 (Below w.heap.size w w94) := ⟨h12_⟩
          clear BK312
          clear BK313
          clear BK320
          clear HB
          clear h0_ h1_ h2_ h3_ h4_ h5_ h6_ h7_ h8_ h9_ h10_ h11_ h12_
          have BK312 := n0_
          have BK313 := n1_
          have BK320 := n2_
          have BK329 := n3_
          have GW329 := n4_
          have GE329 := n5_
          have NB312_329 := n6_
          have NB329_312 := n7_
          have NB313_329 := n8_
          have NB329_313 := n9_
          have NB320_329 := n10_
          have NB329_320 := n11_
          have HB := n12_
          clear n0_ n1_ n2_ n3_ n4_ n5_ n6_ n7_ n8_ n9_ n10_ n11_ n12_
          have hHeld : w94.cell? ⟨gb312, 0, none⟩ = some (.int .i64 a0_0) ∧ w94.cell? ⟨gb312, 1, none⟩ = some (.int .i64 a0_1) ∧ w94.cell? ⟨gb312, 2, none⟩ = some (.int .i64 a0_2) ∧ w94.cell? ⟨gb312, 3, none⟩ = some (.int .i64 a0_3) ∧ w94.cell? ⟨gb313, 0, none⟩ = some (.int .i64 a1_0) ∧ w94.cell? ⟨gb313, 1, none⟩ = some (.int .i64 a1_1) ∧ w94.cell? ⟨gb313, 2, none⟩ = some (.int .i64 a1_2) ∧ w94.cell? ⟨gb313, 3, none⟩ = some (.int .i64 a1_3) := hS_
          refine norm_ (a' := ?_) ?_ ?_
          rotate_left
          ·simp only [putAll, Act.put, List.setIfInBounds_toArray, List.set_cons_zero, List.set_cons_succ]
           rfl
          refine one_ (i := 6) (N := none) #[true, true, true, true, true, true, true] rfl rfl (by kernel_rfl) (by decide) (fun K hK => ?_)
          have hs95 : w94.cell? ⟨gb329, 0, none⟩ = some (.int .i64 0) := (blk_cell BK329.out 0).trans rfl
          have hfs95 := blk_frozen BK329.out 0
          have hns95_0 := NB312_329.out
          have hns95_1 := NB313_329.out
          have hns95_2 := NB320_329.out
          have hms95_0 := NB329_312.out
          have hms95_1 := NB329_313.out
          have hms95_2 := NB329_320.out
          have hs96 : w94.cell? ⟨gb329, 1, none⟩ = some (.int .i64 0) := (blk_cell BK329.out 1).trans rfl
          have hfs96 := blk_frozen BK329.out 1
          have hns96_0 := NB312_329.out
          have hns96_1 := NB313_329.out
          have hns96_2 := NB320_329.out
          have hms96_0 := NB329_312.out
          have hms96_1 := NB329_313.out
          have hms96_2 := NB329_320.out
          have hs97 : w94.cell? ⟨gb329, 2, none⟩ = some (.int .i64 0) := (blk_cell BK329.out 2).trans rfl
          have hfs97 := blk_frozen BK329.out 2
          have hns97_0 := NB312_329.out
          have hns97_1 := NB313_329.out
          have hns97_2 := NB320_329.out
          have hms97_0 := NB329_312.out
          have hms97_1 := NB329_313.out
          have hms97_2 := NB329_320.out
          have hs98 : w94.cell? ⟨gb329, 3, none⟩ = some (.int .i64 0) := (blk_cell BK329.out 3).trans rfl
          have hfs98 := blk_frozen BK329.out 3
          have hns98_0 := NB312_329.out
          have hns98_1 := NB313_329.out
          have hns98_2 := NB320_329.out
          have hms98_0 := NB329_312.out
          have hms98_1 := NB329_313.out
          have hms98_2 := NB329_320.out
          refine skip_ (w1 := ?_) (by rfl) rfl ?_ ?_
          rotate_left
          ·go_simp
           rfl
          refine hK.out _ _ ⟨((cell_far (p := ⟨gb329, _, none⟩) NB312_329.out _).trans (((cell_far (p := ⟨gb329, _, none⟩) NB312_329.out _).trans (((cell_far (p := ⟨gb329, _, none⟩) NB312_329.out _).trans (((cell_far (p := ⟨gb329, _, none⟩) NB312_329.out _).trans (hHeld.1)))))))), ((cell_far (p := ⟨gb329, _, none⟩) NB312_329.out _).trans (((cell_far (p := ⟨gb329, _, none⟩) NB312_329.out _).trans (((cell_far (p := ⟨gb329, _, none⟩) NB312_329.out _).trans (((cell_far (p := ⟨gb329, _, none⟩) NB312_329.out _).trans (hHeld.2.1)))))))), ((cell_far (p := ⟨gb329, _, none⟩) NB312_329.out _).trans (((cell_far (p := ⟨gb329, _, none⟩) NB312_329.out _).trans (((cell_far (p := ⟨gb329, _, none⟩) NB312_329.out _).trans (((cell_far (p := ⟨gb329, _, none⟩) NB312_329.out _).trans (hHeld.2.2.1)))))))), ((cell_far (p := ⟨gb329, _, none⟩) NB312_329.out _).trans (((cell_far (p := ⟨gb329, _, none⟩) NB312_329.out _).trans (((cell_far (p := ⟨gb329, _, none⟩) NB312_329.out _).trans (((cell_far (p := ⟨gb329, _, none⟩) NB312_329.out _).trans (hHeld.2.2.2.1)))))))), ((cell_far (p := ⟨gb329, _, none⟩) NB313_329.out _).trans (((cell_far (p := ⟨gb329, _, none⟩) NB313_329.out _).trans (((cell_far (p := ⟨gb329, _, none⟩) NB313_329.out _).trans (((cell_far (p := ⟨gb329, _, none⟩) NB313_329.out _).trans (hHeld.2.2.2.2.1)))))))), ((cell_far (p := ⟨gb329, _, none⟩) NB313_329.out _).trans (((cell_far (p := ⟨gb329, _, none⟩) NB313_329.out _).trans (((cell_far (p := ⟨gb329, _, none⟩) NB313_329.out _).trans (((cell_far (p := ⟨gb329, _, none⟩) NB313_329.out _).trans (hHeld.2.2.2.2.2.1)))))))), ((cell_far (p := ⟨gb329, _, none⟩) NB313_329.out _).trans (((cell_far (p := ⟨gb329, _, none⟩) NB313_329.out _).trans (((cell_far (p := ⟨gb329, _, none⟩) NB313_329.out _).trans (((cell_far (p := ⟨gb329, _, none⟩) NB313_329.out _).trans (hHeld.2.2.2.2.2.2.1)))))))), ((cell_far (p := ⟨gb329, _, none⟩) NB313_329.out _).trans (((cell_far (p := ⟨gb329, _, none⟩) NB313_329.out _).trans (((cell_far (p := ⟨gb329, _, none⟩) NB313_329.out _).trans (((cell_far (p := ⟨gb329, _, none⟩) NB313_329.out _).trans (hHeld.2.2.2.2.2.2.2))))))))⟩ (fun hHeld => ?_)
          clear hK K
          refine done_ (by kernel_rfl) ?_
          try go_wp2
          have n0_ : Aside0 (((((w94.setCell ⟨gb329, 0, none⟩ (.int .i64 t325)).setCell ⟨gb329, 1, none⟩ (.int .i64 t326)).setCell ⟨gb329, 2, none⟩ (.int .i64 t327)).setCell ⟨gb329, 3, none⟩ (.int .i64 t328)).heap[gb312]? = some (.cells #[.int .i64 a0_0, .int .i64 a0_1, .int .i64 a0_2, .int .i64 a0_3] 23 (0, 0))) := ⟨by (with_reducible repeat (first | refine blk_drewN ?_ _ | refine blk_drew ?_ | refine blk_alloc ?_ _)); refine blk_far ?_ NB312_329.out _; (with_reducible repeat (first | refine blk_drewN ?_ _ | refine blk_drew ?_ | refine blk_alloc ?_ _)); refine blk_far ?_ NB312_329.out _; (with_reducible repeat (first | refine blk_drewN ?_ _ | refine blk_drew ?_ | refine blk_alloc ?_ _)); refine blk_far ?_ NB312_329.out _; (with_reducible repeat (first | refine blk_drewN ?_ _ | refine blk_drew ?_ | refine blk_alloc ?_ _)); refine blk_far ?_ NB312_329.out _; (with_reducible repeat (first | refine blk_drewN ?_ _ | refine blk_drew ?_ | refine blk_alloc ?_ _)); exact BK312.out⟩
          have n1_ : Aside0 (((((w94.setCell ⟨gb329, 0, none⟩ (.int .i64 t325)).setCell ⟨gb329, 1, none⟩ (.int .i64 t326)).setCell ⟨gb329, 2, none⟩ (.int .i64 t327)).setCell ⟨gb329, 3, none⟩ (.int .i64 t328)).heap[gb313]? = some (.cells #[.int .i64 a1_0, .int .i64 a1_1, .int .i64 a1_2, .int .i64 a1_3] 25 (0, 0))) := ⟨by (with_reducible repeat (first | refine blk_drewN ?_ _ | refine blk_drew ?_ | refine blk_alloc ?_ _)); refine blk_far ?_ NB313_329.out _; (with_reducible repeat (first | refine blk_drewN ?_ _ | refine blk_drew ?_ | refine blk_alloc ?_ _)); refine blk_far ?_ NB313_329.out _; (with_reducible repeat (first | refine blk_drewN ?_ _ | refine blk_drew ?_ | refine blk_alloc ?_ _)); refine blk_far ?_ NB313_329.out _; (with_reducible repeat (first | refine blk_drewN ?_ _ | refine blk_drew ?_ | refine blk_alloc ?_ _)); refine blk_far ?_ NB313_329.out _; (with_reducible repeat (first | refine blk_drewN ?_ _ | refine blk_drew ?_ | refine blk_alloc ?_ _)); exact BK313.out⟩
          have n2_ : Aside0 (((((w94.setCell ⟨gb329, 0, none⟩ (.int .i64 t325)).setCell ⟨gb329, 1, none⟩ (.int .i64 t326)).setCell ⟨gb329, 2, none⟩ (.int .i64 t327)).setCell ⟨gb329, 3, none⟩ (.int .i64 t328)).heap[gb320]? = some (.cells #[.int .i64 t316, .int .i64 t317, .int .i64 t318, .int .i64 t319] 25 (0, 0))) := ⟨by (with_reducible repeat (first | refine blk_drewN ?_ _ | refine blk_drew ?_ | refine blk_alloc ?_ _)); refine blk_far ?_ NB320_329.out _; (with_reducible repeat (first | refine blk_drewN ?_ _ | refine blk_drew ?_ | refine blk_alloc ?_ _)); refine blk_far ?_ NB320_329.out _; (with_reducible repeat (first | refine blk_drewN ?_ _ | refine blk_drew ?_ | refine blk_alloc ?_ _)); refine blk_far ?_ NB320_329.out _; (with_reducible repeat (first | refine blk_drewN ?_ _ | refine blk_drew ?_ | refine blk_alloc ?_ _)); refine blk_far ?_ NB320_329.out _; (with_reducible repeat (first | refine blk_drewN ?_ _ | refine blk_drew ?_ | refine blk_alloc ?_ _)); exact BK320.out⟩
          have n3_ : Aside0 (((((w94.setCell ⟨gb329, 0, none⟩ (.int .i64 t325)).setCell ⟨gb329, 1, none⟩ (.int .i64 t326)).setCell ⟨gb329, 2, none⟩ (.int .i64 t327)).setCell ⟨gb329, 3, none⟩ (.int .i64 t328)).heap[gb329]? = some (.cells #[.int .i64 t325, .int .i64 t326, .int .i64 t327, .int .i64 t328] 25 (0, 0))) := ⟨by (with_reducible repeat (first | refine blk_drewN ?_ _ | refine blk_drew ?_ | refine blk_alloc ?_ _)); refine blk_put (cs := #[.int .i64 t325, .int .i64 t326, .int .i64 t327, .int .i64 0]) ?_ 3 _ rfl; (with_reducible repeat (first | refine blk_drewN ?_ _ | refine blk_drew ?_ | refine blk_alloc ?_ _)); refine blk_put (cs := #[.int .i64 t325, .int .i64 t326, .int .i64 0, .int .i64 0]) ?_ 2 _ rfl; (with_reducible repeat (first | refine blk_drewN ?_ _ | refine blk_drew ?_ | refine blk_alloc ?_ _)); refine blk_put (cs := #[.int .i64 t325, .int .i64 0, .int .i64 0, .int .i64 0]) ?_ 1 _ rfl; (with_reducible repeat (first | refine blk_drewN ?_ _ | refine blk_drew ?_ | refine blk_alloc ?_ _)); refine blk_put (cs := #[.int .i64 0, .int .i64 0, .int .i64 0, .int .i64 0]) ?_ 0 _ rfl; (with_reducible repeat (first | refine blk_drewN ?_ _ | refine blk_drew ?_ | refine blk_alloc ?_ _)); exact BK329.out⟩
          have n4_ : Aside0 (Below w.heap.size w ((((w94.setCell ⟨gb329, 0, none⟩ (.int .i64 t325)).setCell ⟨gb329, 1, none⟩ (.int .i64 t326)).setCell ⟨gb329, 2, none⟩ (.int .i64 t327)).setCell ⟨gb329, 3, none⟩ (.int .i64 t328))) := ⟨by repeat (first | (with_reducible first | exact HB.out | apply below_alloc | apply pw_below_drewN | apply below_drew1 | refine below_set ?_ GE312.out | refine below_set ?_ GE313.out | refine below_set ?_ GE320.out | refine below_set ?_ GE329.out) | exact HB.out)⟩
          (try clear BK312)
          (try clear BK313)
          (try clear BK320)
          (try clear BK329)
          (try clear HB)
          generalize ((((w94.setCell ⟨gb329, 0, none⟩ (.int .i64 t325)).setCell ⟨gb329, 1, none⟩ (.int .i64 t326)).setCell ⟨gb329, 2, none⟩ (.int .i64 t327)).setCell ⟨gb329, 3, none⟩ (.int .i64 t328)) = w99 at n0_ n1_ n2_ n3_ n4_ ⊢
          have BK312 := n0_
          have BK313 := n1_
          have BK320 := n2_
          have BK329 := n3_
          have HB := n4_
          clear n0_ n1_ n2_ n3_ n4_
          have n0_ := Aside0.mk (blk_drew BK312.out)
          have n1_ := Aside0.mk (blk_drew BK313.out)
          have n2_ := Aside0.mk (blk_drew BK320.out)
          have n3_ := Aside0.mk (blk_drew BK329.out)
          have n4_ := Aside0.mk (below_drew1 HB.out)
          clear BK312
          clear BK313
          clear BK320
          clear BK329
          clear HB
          have BK312 := n0_
          have BK313 := n1_
          have BK320 := n2_
          have BK329 := n3_
          have HB := n4_
          clear n0_ n1_ n2_ n3_ n4_
          refine start_ (n := 22) (S := fun w' => w'.cell? ⟨gb313, 0, none⟩ = some (.int .i64 a1_0) ∧ w'.cell? ⟨gb313, 1, none⟩ = some (.int .i64 a1_1) ∧ w'.cell? ⟨gb313, 2, none⟩ = some (.int .i64 a1_2) ∧ w'.cell? ⟨gb313, 3, none⟩ = some (.int .i64 a1_3) ∧ w'.cell? ⟨gb329, 0, none⟩ = some (.int .i64 t325) ∧ w'.cell? ⟨gb329, 1, none⟩ = some (.int .i64 t326) ∧ w'.cell? ⟨gb329, 2, none⟩ = some (.int .i64 t327) ∧ w'.cell? ⟨gb329, 3, none⟩ = some (.int .i64 t328) ∧ w'.cell? ⟨gb320, 0, none⟩ = some (.int .i64 t316) ∧ w'.cell? ⟨gb320, 1, none⟩ = some (.int .i64 t317) ∧ w'.cell? ⟨gb320, 2, none⟩ = some (.int .i64 t318) ∧ w'.cell? ⟨gb320, 3, none⟩ = some (.int .i64 t319)) (ds := []) #[false, false, false, false, false, false, false, false, false, false, false, false, false, false, false, false, false, false, false, false, false, false] (by kernel_rfl) rfl rfl ⟨(blk_cell BK313.out 0).trans rfl, (blk_cell BK313.out 1).trans rfl, (blk_cell BK313.out 2).trans rfl, (blk_cell BK313.out 3).trans rfl, (blk_cell BK329.out 0).trans rfl, (blk_cell BK329.out 1).trans rfl, (blk_cell BK329.out 2).trans rfl, (blk_cell BK329.out 3).trans rfl, (blk_cell BK320.out 0).trans rfl, (blk_cell BK320.out 1).trans rfl, (blk_cell BK320.out 2).trans rfl, (blk_cell BK320.out 3).trans rfl⟩ (fun hHeld => ?_); refine with_tabW skiarealaw14_DriveTargets.tab13 skiarealaw14_DriveTargets.bits13 (fun HT_ HW_ => ?_)
          generalize w99.drew = w100 at BK312 BK313 BK320 BK329 HB hHeld ⊢
          refine pure_ (i := 0) (N := some 97) (v := ?_) (a' := ?_) #[true, false, false, false, false, false, false, false, false, false, false, false, false, false, false, false, false, false, false, false, false, false] rfl rfl (any_of HT_.out (by kernel_rfl)) (fun _ _ _ h => h) (Or.inl ⟨by rfl, ?_⟩) ?_ ?_
          rotate_left
          ·intro w'
           go_simp
           with_reducible rfl
          rotate_left
          ·simp only [Act.put, List.setIfInBounds_toArray, List.set_cons_zero, List.set_cons_succ, i64_w, i32_w]
           rfl
          refine take_ (i := 1) (N := some 98) (v := ?_) (a' := ?_) #[true, true, false, false, false, false, false, false, false, false, false, false, false, false, false, false, false, false, false, false, false, false] rfl rfl (take_ofW HT_.out HW_.out (by kernel_rfl)) (fun _ _ _ h => h) (Or.inl ⟨by rfl, ?_⟩) hHeld ?_ ?_
          rotate_left
          ·rintro w' ⟨s0, s1, s2, s3, s4, s5, s6, s7, s8, s9, s10, s11⟩
           go_simp
           with_reducible rfl
          rotate_left
          ·simp only [Act.put, List.setIfInBounds_toArray, List.set_cons_zero, List.set_cons_succ, i64_w, i32_w]
           rfl
          refine pure_ (i := 2) (N := some 99) (v := ?_) (a' := ?_) #[true, true, true, false, false, false, false, false, false, false, false, false, false, false, false, false, false, false, false, false, false, false] rfl rfl (any_of HT_.out (by kernel_rfl)) (fun _ _ _ h => h) (Or.inl ⟨by rfl, ?_⟩) ?_ ?_
          rotate_left
          ·intro w'
           go_simp
           with_reducible rfl
          rotate_left
          ·simp only [Act.put, List.setIfInBounds_toArray, List.set_cons_zero, List.set_cons_succ, i64_w, i32_w]
           rfl
          refine pure_ (i := 3) (N := some 100) (v := ?_) (a' := ?_) #[true, true, true, true, false, false, false, false, false, false, false, false, false, false, false, false, false, false, false, false, false, false] rfl rfl (any_of HT_.out (by kernel_rfl)) (fun _ _ _ h => h) (Or.inl ⟨by rfl, ?_⟩) ?_ ?_
          rotate_left
          ·intro w'
           go_simp
           with_reducible rfl
          rotate_left
          ·simp only [Act.put, List.setIfInBounds_toArray, List.set_cons_zero, List.set_cons_succ, i64_w, i32_w]
           rfl
          refine pure_ (i := 4) (N := some 101) (v := ?_) (a' := ?_) #[true, true, true, true, true, false, false, false, false, false, false, false, false, false, false, false, false, false, false, false, false, false] rfl rfl (any_of HT_.out (by kernel_rfl)) (fun _ _ _ h => h) (Or.inl ⟨by rfl, ?_⟩) ?_ ?_
          rotate_left
          ·intro w'
           go_simp
           with_reducible rfl
          rotate_left
          ·simp only [Act.put, List.setIfInBounds_toArray, List.set_cons_zero, List.set_cons_succ, i64_w, i32_w]
           rfl
          refine take_ (i := 5) (N := some 102) (v := ?_) (a' := ?_) #[true, true, true, true, true, true, false, false, false, false, false, false, false, false, false, false, false, false, false, false, false, false] rfl rfl (take_ofW HT_.out HW_.out (by kernel_rfl)) (fun _ _ _ h => h) (Or.inl ⟨by rfl, ?_⟩) hHeld ?_ ?_
          rotate_left
          ·rintro w' ⟨s0, s1, s2, s3, s4, s5, s6, s7, s8, s9, s10, s11⟩
           go_simp
           with_reducible rfl
          rotate_left
          ·simp only [Act.put, List.setIfInBounds_toArray, List.set_cons_zero, List.set_cons_succ, i64_w, i32_w]
           rfl
          refine pure_ (i := 6) (N := some 103) (v := ?_) (a' := ?_) #[true, true, true, true, true, true, true, false, false, false, false, false, false, false, false, false, false, false, false, false, false, false] rfl rfl (any_of HT_.out (by kernel_rfl)) (fun _ _ _ h => h) (Or.inl ⟨by rfl, ?_⟩) ?_ ?_
          rotate_left
          ·intro w'
           go_simp
           with_reducible rfl
          rotate_left
          ·simp only [Act.put, List.setIfInBounds_toArray, List.set_cons_zero, List.set_cons_succ, i64_w, i32_w]
           rfl
          refine pure_ (i := 7) (N := some 104) (v := ?_) (a' := ?_) #[true, true, true, true, true, true, true, true, false, false, false, false, false, false, false, false, false, false, false, false, false, false] rfl rfl (any_of HT_.out (by kernel_rfl)) (fun _ _ _ h => h) (Or.inl ⟨by rfl, ?_⟩) ?_ ?_
          rotate_left
          ·intro w'
           go_simp
           with_reducible rfl
          rotate_left
          ·simp only [Act.put, List.setIfInBounds_toArray, List.set_cons_zero, List.set_cons_succ, i64_w, i32_w]
           rfl
          refine pure_ (i := 8) (N := some 105) (v := ?_) (a' := ?_) #[true, true, true, true, true, true, true, true, true, false, false, false, false, false, false, false, false, false, false, false, false, false] rfl rfl (any_of HT_.out (by kernel_rfl)) (fun _ _ _ h => h) (Or.inl ⟨by rfl, ?_⟩) ?_ ?_
          rotate_left
          ·intro w'
           go_simp
           with_reducible rfl
          rotate_left
          ·simp only [Act.put, List.setIfInBounds_toArray, List.set_cons_zero, List.set_cons_succ, i64_w, i32_w]
           rfl
          refine pure_ (i := 9) (N := some 106) (v := ?_) (a' := ?_) #[true, true, true, true, true, true, true, true, true, true, false, false, false, false, false, false, false, false, false, false, false, false] rfl rfl (any_of HT_.out (by kernel_rfl)) (fun _ _ _ h => h) (Or.inl ⟨by rfl, ?_⟩) ?_ ?_
          rotate_left
          ·intro w'
           go_simp
           with_reducible rfl
          rotate_left
          ·simp only [Act.put, List.setIfInBounds_toArray, List.set_cons_zero, List.set_cons_succ, i64_w, i32_w]
           rfl
          refine take_ (i := 10) (N := some 107) (v := ?_) (a' := ?_) #[true, true, true, true, true, true, true, true, true, true, true, false, false, false, false, false, false, false, false, false, false, false] rfl rfl (take_ofW HT_.out HW_.out (by kernel_rfl)) (fun _ _ _ h => h) (Or.inl ⟨by rfl, ?_⟩) hHeld ?_ ?_
          rotate_left
          ·rintro w' ⟨s0, s1, s2, s3, s4, s5, s6, s7, s8, s9, s10, s11⟩
           go_simp
           with_reducible rfl
          rotate_left
          ·simp only [Act.put, List.setIfInBounds_toArray, List.set_cons_zero, List.set_cons_succ, i64_w, i32_w]
           rfl
          refine pure_ (i := 11) (N := some 108) (v := ?_) (a' := ?_) #[true, true, true, true, true, true, true, true, true, true, true, true, false, false, false, false, false, false, false, false, false, false] rfl rfl (any_of HT_.out (by kernel_rfl)) (fun _ _ _ h => h) (Or.inl ⟨by rfl, ?_⟩) ?_ ?_
          rotate_left
          ·intro w'
           go_simp
           with_reducible rfl
          rotate_left
          ·simp only [Act.put, List.setIfInBounds_toArray, List.set_cons_zero, List.set_cons_succ, i64_w, i32_w]
           rfl
          refine pure_ (i := 12) (N := some 109) (v := ?_) (a' := ?_) #[true, true, true, true, true, true, true, true, true, true, true, true, true, false, false, false, false, false, false, false, false, false] rfl rfl (any_of HT_.out (by kernel_rfl)) (fun _ _ _ h => h) (Or.inl ⟨by rfl, ?_⟩) ?_ ?_
          rotate_left
          ·intro w'
           go_simp
           with_reducible rfl
          rotate_left
          ·simp only [Act.put, List.setIfInBounds_toArray, List.set_cons_zero, List.set_cons_succ, i64_w, i32_w]
           rfl
          refine pure_ (i := 13) (N := some 110) (v := ?_) (a' := ?_) #[true, true, true, true, true, true, true, true, true, true, true, true, true, true, false, false, false, false, false, false, false, false] rfl rfl (any_of HT_.out (by kernel_rfl)) (fun _ _ _ h => h) (Or.inl ⟨by rfl, ?_⟩) ?_ ?_
          rotate_left
          ·intro w'
           go_simp
           with_reducible rfl
          rotate_left
          ·simp only [Act.put, List.setIfInBounds_toArray, List.set_cons_zero, List.set_cons_succ, i64_w, i32_w]
           rfl
          refine pure_ (i := 17) (N := some 114) (v := ?_) (a' := ?_) #[true, true, true, true, true, true, true, true, true, true, true, true, true, true, false, false, false, true, false, false, false, false] rfl rfl (any_of HT_.out (by kernel_rfl)) (fun _ _ _ h => h) (Or.inl ⟨by rfl, ?_⟩) ?_ ?_
          rotate_left
          ·intro w'
           go_simp
           with_reducible rfl
          rotate_left
          ·simp only [Act.put, List.setIfInBounds_toArray, List.set_cons_zero, List.set_cons_succ, i64_w, i32_w]
           rfl
          refine take_ (i := 14) (N := some 111) (v := ?_) (a' := ?_) #[true, true, true, true, true, true, true, true, true, true, true, true, true, true, true, false, false, true, false, false, false, false] rfl rfl (take_ofW HT_.out HW_.out (by kernel_rfl)) (fun _ _ _ h => h) (Or.inl ⟨by rfl, ?_⟩) hHeld ?_ ?_
          rotate_left
          ·rintro w' ⟨s0, s1, s2, s3, s4, s5, s6, s7, s8, s9, s10, s11⟩
           go_simp
           with_reducible rfl
          rotate_left
          ·simp only [Act.put, List.setIfInBounds_toArray, List.set_cons_zero, List.set_cons_succ, i64_w, i32_w]
           rfl
          refine take_ (i := 15) (N := some 112) (v := ?_) (a' := ?_) #[true, true, true, true, true, true, true, true, true, true, true, true, true, true, true, true, false, true, false, false, false, false] rfl rfl (take_ofW HT_.out HW_.out (by kernel_rfl)) (fun _ _ _ h => h) (Or.inl ⟨by rfl, ?_⟩) hHeld ?_ ?_
          rotate_left
          ·rintro w' ⟨s0, s1, s2, s3, s4, s5, s6, s7, s8, s9, s10, s11⟩
           go_simp
           with_reducible rfl
          rotate_left
          ·simp only [Act.put, List.setIfInBounds_toArray, List.set_cons_zero, List.set_cons_succ, i64_w, i32_w]
           rfl
          refine take_ (i := 18) (N := some 115) (v := ?_) (a' := ?_) #[true, true, true, true, true, true, true, true, true, true, true, true, true, true, true, true, false, true, true, false, false, false] rfl rfl (take_ofW HT_.out HW_.out (by kernel_rfl)) (fun _ _ _ h => h) (Or.inl ⟨by rfl, ?_⟩) hHeld ?_ ?_
          rotate_left
          ·rintro w' ⟨s0, s1, s2, s3, s4, s5, s6, s7, s8, s9, s10, s11⟩
           go_simp
           with_reducible rfl
          rotate_left
          ·simp only [Act.put, List.setIfInBounds_toArray, List.set_cons_zero, List.set_cons_succ, i64_w, i32_w]
           rfl
          refine one_ (i := 16) (N := some 113) #[true, true, true, true, true, true, true, true, true, true, true, true, true, true, true, true, true, true, true, false, false, false] rfl rfl (one_of HT_.out (by kernel_rfl)) (by decide) (fun K hK => ?_)
          refine goes_ Try.func28 (by kernel_rfl) rfl #[.agg #[.int .i64 a1_0, .int .i64 a1_1, .int .i64 a1_2, .int .i64 a1_3], .agg #[.int .i64 t316, .int .i64 t317, .int .i64 t318, .int .i64 t319]] (by rfl) rfl rfl (by (try simp only [List.map_toArray, List.map_cons, List.map_nil]); first | done | rfl | (simp only [List.length_drop, List.length_take]; rfl)) ?_
          with_reducible refine (skiarealaw14_far.calls a1_0 a1_1 a1_2 a1_3 t316 t317 t318 t319 t331 _ A86.out).mono ?_
          rintro e w101 ⟨rfl, hb⟩
          refine ⟨_, rfl, ?_⟩
          have n0_ := Aside0.mk (bb_ BK312.out hb)
          have n1_ := Aside0.mk (bb_ BK313.out hb)
          have n2_ := Aside0.mk (bb_ BK320.out hb)
          have n3_ := Aside0.mk (bb_ BK329.out hb)
          have n4_ := Aside0.mk (below_step (by repeat (first | (with_reducible first | exact HB.out | apply below_alloc | apply pw_below_drewN | apply below_drew1 | refine below_set ?_ GE312.out | refine below_set ?_ GE313.out | refine below_set ?_ GE320.out | refine below_set ?_ GE329.out) | exact HB.out)) hb)
          clear BK312
          clear BK313
          clear BK320
          clear BK329
          clear HB
          have BK312 := n0_
          have BK313 := n1_
          have BK320 := n2_
          have BK329 := n3_
          have HB := n4_
          clear n0_ n1_ n2_ n3_ n4_
          (try clear hb)
          (try clear hb2)
          (try clear hk)
          (try clear hi)
          refine hK.out _ _ ⟨(blk_cell BK313.out 0).trans rfl, (blk_cell BK313.out 1).trans rfl, (blk_cell BK313.out 2).trans rfl, (blk_cell BK313.out 3).trans rfl, (blk_cell BK329.out 0).trans rfl, (blk_cell BK329.out 1).trans rfl, (blk_cell BK329.out 2).trans rfl, (blk_cell BK329.out 3).trans rfl, (blk_cell BK320.out 0).trans rfl, (blk_cell BK320.out 1).trans rfl, (blk_cell BK320.out 2).trans rfl, (blk_cell BK320.out 3).trans rfl⟩ (fun hHeld => ?_)
          clear hK K
          refine norm_ (a' := ?_) ?_ ?_
          rotate_left
          ·show Act.put _ (some 113) _ = _
           simp only [Act.put, List.setIfInBounds_toArray, List.set_cons_zero, List.set_cons_succ, i64_w, i32_w]
           rfl
          refine pure_ (i := 19) (N := some 116) (v := ?_) (a' := ?_) #[true, true, true, true, true, true, true, true, true, true, true, true, true, true, true, true, true, true, true, true, false, false] rfl rfl (any_of HT_.out (by kernel_rfl)) (fun _ _ _ h => h) (Or.inl ⟨by rfl, ?_⟩) ?_ ?_
          rotate_left
          ·intro w'
           go_simp
           with_reducible rfl
          rotate_left
          ·simp only [Act.put, List.setIfInBounds_toArray, List.set_cons_zero, List.set_cons_succ, i64_w, i32_w]
           rfl
          refine pure_ (i := 20) (N := some 117) (v := ?_) (a' := ?_) #[true, true, true, true, true, true, true, true, true, true, true, true, true, true, true, true, true, true, true, true, true, false] rfl rfl (any_of HT_.out (by kernel_rfl)) (fun _ _ _ h => h) (Or.inl ⟨by rfl, ?_⟩) ?_ ?_
          rotate_left
          ·intro w'
           go_simp
           with_reducible rfl
          rotate_left
          ·simp only [Act.put, List.setIfInBounds_toArray, List.set_cons_zero, List.set_cons_succ, i64_w, i32_w]
           rfl
          refine pure_ (i := 21) (N := some 4) (v := ?_) (a' := ?_) #[true, true, true, true, true, true, true, true, true, true, true, true, true, true, true, true, true, true, true, true, true, true] rfl rfl (any_of HT_.out (by kernel_rfl)) (fun _ _ _ h => h) (Or.inl ⟨by rfl, ?_⟩) ?_ ?_
          rotate_left
          ·intro w'
           go_simp
           with_reducible rfl
          rotate_left
          ·simp only [Act.put, List.setIfInBounds_toArray, List.set_cons_zero, List.set_cons_succ, i64_w, i32_w]
           rfl
          refine done_ (done_of HT_.out (by kernel_rfl)) ?_
          try go_wp2
          go_ret
          exact ⟨by first | rfl | (simp [errW_none, errW_some] <;> rfl) | (simp only [← hji8, ← hji9]; first | rfl | (simp [errW_none, errW_some] <;> rfl)) | (simp [*, errW_none, errW_some] <;> rfl), by repeat (first | (with_reducible first | exact HB.out | apply below_alloc | apply pw_below_drewN | apply below_drew1 | refine below_set ?_ GE312.out | refine below_set ?_ GE313.out | refine below_set ?_ GE320.out | refine below_set ?_ GE329.out) | exact HB.out)⟩
         ·rw [if_neg c85] at H
          exact absurd H (by simp)
        ·rw [if_neg c84] at H
         exact absurd H (by simp)
  ·replace c6 := Bool.eq_false_iff.mpr c6
   subst c6
   have H1 : (some true) = some r := by rw [if_neg (show ¬ (false = true) by decide)] at H; exact H
   clear H
   have H := H1
   clear H1
   obtain rfl := Option.some.inj H
   go_enter Try.func7, Try.ntmps7
   go_wp2_with (first | ((with_reducible refine gate_dst (N := 2) rfl ?_); refine box_event ?hg (N := 2) ?hd (cs := #[.int .i64 a0_0, .int .i64 a0_1, .int .i64 a0_2, .int .i64 a0_3]) (t := 23) ?hr ?_; (case hd => rfl); (case hg => rfl); (case hr => first | (go_simp; done) | (go_simp; rfl)); intro gb312 hg w102 hbox hb; have n0_ := Aside0.mk (below_step (by repeat (first | (with_reducible first | exact HB.out | apply below_alloc | apply pw_below_drewN | apply below_drew1) | exact HB.out)) hb); have n1_ := Aside0.mk (hbox); have n2_ := Aside0.mk ((by rw [hg]; exact (below_size (by repeat (first | (with_reducible first | exact HB.out | apply below_alloc | apply pw_below_drewN | apply below_drew1) | exact HB.out))) : w.heap.size ≤ gb312)); have n3_ := Aside0.mk ((by rw [hg]; exact (below_size (by repeat (first | (with_reducible first | exact HB.out | apply below_alloc | apply pw_below_drewN | apply below_drew1) | exact HB.out))) : w.heap.size ≤ gb312)); clear HB; have HB := n0_; have BK312 := n1_; have GW312 := n2_; have GE312 := n3_; clear n0_ n1_ n2_ n3_; clear hb hbox hg) | ((with_reducible refine gate_dst (N := 3) rfl ?_); refine box_event ?hg (N := 3) ?hd (cs := #[.int .i64 a1_0, .int .i64 a1_1, .int .i64 a1_2, .int .i64 a1_3]) (t := 25) ?hr ?_; (case hd => rfl); (case hg => rfl); (case hr => first | (go_simp; done) | (go_simp; rfl)); intro gb313 hg w103 hbox hb; have n0_ := Aside0.mk (bb_ BK312.out hb); have n1_ := Aside0.mk (below_step (by repeat (first | (with_reducible first | exact HB.out | apply below_alloc | apply pw_below_drewN | apply below_drew1 | refine below_set ?_ GE312.out) | exact HB.out)) hb); have n2_ := Aside0.mk (hbox); have n3_ := Aside0.mk ((by rw [hg]; exact (below_size (by repeat (first | (with_reducible first | exact HB.out | apply below_alloc | apply pw_below_drewN | apply below_drew1 | refine below_set ?_ GE312.out) | exact HB.out))) : w.heap.size ≤ gb313)); have n4_ := Aside0.mk ((by rw [hg]; exact (below_size (by repeat (first | (with_reducible first | exact HB.out | apply below_alloc | apply pw_below_drewN | apply below_drew1 | refine below_set ?_ GE312.out) | exact HB.out))) : w.heap.size ≤ gb313)); have n5_ := Aside0.mk ((by rw [hg]; exact Nat.ne_of_lt (blk_lt (g := gb312) (o := .cells #[.int .i64 a0_0, .int .i64 a0_1, .int .i64 a0_2, .int .i64 a0_3] 23 (0, 0)) (by (with_reducible repeat (first | refine blk_drewN ?_ _ | refine blk_drew ?_ | refine blk_alloc ?_ _)); exact BK312.out)) : gb312 ≠ gb313)); have n6_ := Aside0.mk ((by rw [hg]; exact Nat.ne_of_gt (blk_lt (g := gb312) (o := .cells #[.int .i64 a0_0, .int .i64 a0_1, .int .i64 a0_2, .int .i64 a0_3] 23 (0, 0)) (by (with_reducible repeat (first | refine blk_drewN ?_ _ | refine blk_drew ?_ | refine blk_alloc ?_ _)); exact BK312.out)) : gb313 ≠ gb312)); clear BK312; clear HB; have BK312 := n0_; have HB := n1_; have BK313 := n2_; have GW313 := n3_; have GE313 := n4_; have NB312_313 := n5_; have NB313_312 := n6_; clear n0_ n1_ n2_ n3_ n4_ n5_ n6_; clear hb hbox hg) | ((with_reducible refine gate_callee (f := 10) rfl ?_); refine goesL_ (some 9) rfl rfl Try.func10 (by kernel_rfl) rfl #[] rfl (by (try simp only [List.map_toArray, List.map_cons, List.map_nil]); first | done | rfl | (simp only [List.length_drop, List.length_take]; rfl)) ?_; (with_reducible refine (skiarealaw14_alive.calls k  true _ A3.out).mono ?_); rintro e w104 ⟨rfl, hb⟩; refine ⟨_, rfl, ?_⟩; have n0_ := Aside0.mk (bb_ BK312.out hb); have n1_ := Aside0.mk (bb_ BK313.out hb); have n2_ := Aside0.mk (below_step (by repeat (first | (with_reducible first | exact HB.out | apply below_alloc | apply pw_below_drewN | apply below_drew1 | refine below_set ?_ GE312.out | refine below_set ?_ GE313.out) | exact HB.out)) hb); clear BK312; clear BK313; clear HB; have BK312 := n0_; have BK313 := n1_; have HB := n2_; clear n0_ n1_ n2_; (try clear hb); (try clear hb2); (try clear hk); (try clear hi); have hnb105 := NB312_313.out; have hnc105 := NB313_312.out; have hcz106_0 : w104.cell? ⟨gb312, 0, none⟩ = some (.int .i64 a0_0) := (blk_cell BK312.out 0).trans rfl; have hcz106_1 : w104.cell? ⟨gb312, 1, none⟩ = some (.int .i64 a0_1) := (blk_cell BK312.out 1).trans rfl; have hcz106_2 : w104.cell? ⟨gb312, 2, none⟩ = some (.int .i64 a0_2) := (blk_cell BK312.out 2).trans rfl; have hcz106_3 : w104.cell? ⟨gb312, 3, none⟩ = some (.int .i64 a0_3) := (blk_cell BK312.out 3).trans rfl; have hfz106_0 := blk_frozen BK312.out 0; have hfz106_1 := blk_frozen BK312.out 1; have hfz106_2 := blk_frozen BK312.out 2; have hfz106_3 := blk_frozen BK312.out 3; have hcz107_0 : w104.cell? ⟨gb313, 0, none⟩ = some (.int .i64 a1_0) := (blk_cell BK313.out 0).trans rfl; have hcz107_1 : w104.cell? ⟨gb313, 1, none⟩ = some (.int .i64 a1_1) := (blk_cell BK313.out 1).trans rfl; have hcz107_2 : w104.cell? ⟨gb313, 2, none⟩ = some (.int .i64 a1_2) := (blk_cell BK313.out 2).trans rfl; have hcz107_3 : w104.cell? ⟨gb313, 3, none⟩ = some (.int .i64 a1_3) := (blk_cell BK313.out 3).trans rfl; have hfz107_0 := blk_frozen BK313.out 0; have hfz107_1 := blk_frozen BK313.out 1; have hfz107_2 := blk_frozen BK313.out 2; have hfz107_3 := blk_frozen BK313.out 3) | ((with_reducible refine gate_callee (f := 15) rfl ?_); refine goesL_ (some 13) rfl rfl Try.func15 (by kernel_rfl) rfl #[.agg #[.int .i64 a0_0, .int .i64 a0_1, .int .i64 a0_2, .int .i64 a0_3], .agg #[.int .i64 a1_0, .int .i64 a1_1, .int .i64 a1_2, .int .i64 a1_3]] rfl (by (try simp only [List.map_toArray, List.map_cons, List.map_nil]); first | done | rfl | (simp only [List.length_drop, List.length_take]; rfl)) ?_; (with_reducible refine (skiarealaw14_valid.calls k a0_0 a0_1 a0_2 a0_3 a1_0 a1_1 a1_2 a1_3 false _ A5.out).mono ?_); rintro e w108 ⟨rfl, hb⟩; refine ⟨_, rfl, ?_⟩; have n0_ := Aside0.mk (bb_ BK312.out hb); have n1_ := Aside0.mk (bb_ BK313.out hb); have n2_ := Aside0.mk (below_step (by repeat (first | (with_reducible first | exact HB.out | apply below_alloc | apply pw_below_drewN | apply below_drew1 | refine below_set ?_ GE312.out | refine below_set ?_ GE313.out) | exact HB.out)) hb); clear BK312; clear BK313; clear HB; have BK312 := n0_; have BK313 := n1_; have HB := n2_; clear n0_ n1_ n2_; (try clear hb); (try clear hb2); (try clear hk); (try clear hi)))
   go_ret
   exact ⟨by first | rfl | (simp [errW_none, errW_some] <;> rfl) | (simp [*, errW_none, errW_some] <;> rfl), by repeat (first | (with_reducible first | exact HB.out | apply below_alloc | apply pw_below_drewN | apply below_drew1 | refine below_set ?_ GE312.out | refine below_set ?_ GE313.out) | exact HB.out)⟩
 ·replace c4 := Bool.eq_false_iff.mpr c4
  subst c4
  have H1 : (none) = some r := by rw [if_neg (show ¬ (false = true) by decide)] at H; exact H
  clear H
  have H := H1
  clear H1
  exact absurd H (by simp)

end Go.Proofs.Ytaleljinebkdkaa.P
