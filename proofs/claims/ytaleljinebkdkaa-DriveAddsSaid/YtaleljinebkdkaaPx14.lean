-- Written by wip/tools/laws.py of this repo over the kit's printer, for this claim.
import Derived.Test.YtaleljinebkdkaaPx0
import Derived.Test.YtaleljinebkdkaaPx1
import Derived.Test.YtaleljinebkdkaaPx3
import Derived.Test.YtaleljinebkdkaaPx4
import Derived.Test.YtaleljinebkdkaaPx5
import Derived.Test.YtaleljinebkdkaaPx6
import Derived.Test.YtaleljinebkdkaaPx7
import Derived.Test.YtaleljinebkdkaaPx8
import Derived.Test.YtaleljinebkdkaaPx11
import Derived.Test.YtaleljinebkdkaaPx12
import Derived.Test.YtaleljinebkdkaaPx13
namespace Go.Proofs.Ytaleljinebkdkaa.P
open Go.RowKit Go.Proofs.YtaleljinebkdkaaW.PrintWords Go.Proofs.YtaleljinebkdkaaW.PrintLast Go.Proofs.YtaleljinebkdkaaW.PrintMore
attribute [local go_sem] max2_int min2_int max_two min_two max_three min_three max_four min_four   -- for this text's walks alone
set_option linter.unusedVariables false
set_option linter.unusedSimpArgs false

attribute [local go_sem high] eqA25
/-! ### skiarealaw14_alive: function 10 -/
def skiarealaw14_alive.f (k : Nat)  : Option (Bool) := (skiarealaw14_motor.f).bind fun bt135 => ((drive_Start.f k bt135.1 bt135.2.1 bt135.2.2.1 bt135.2.2.2 0 0 0 0 1000).bind fun bt140 => ((drive_Step.f k bt135.1 bt135.2.1 bt135.2.2.1 bt135.2.2.2 bt140.1 bt140.2.1 bt140.2.2.1 bt140.2.2.2.1 3).bind fun bt146 => ((drive_Halt.f bt135.1 bt135.2.1 bt135.2.2.1 bt135.2.2.2 bt146.1 bt146.2.1 bt146.2.2.1 bt146.2.2.2).bind fun bt151 => ((drive_Step.f k bt135.1 bt135.2.1 bt135.2.2.1 bt135.2.2.2 bt151.1 bt151.2.1 bt151.2.2.1 bt151.2.2.2 2).bind fun bt155 => ((drive_Emergency.f bt135.1 bt135.2.1 bt135.2.2.1 bt135.2.2.2 1 5000 5000 0).bind fun bt161 => ((drive_Step.f k bt135.1 bt135.2.1 bt135.2.2.1 bt135.2.2.2 bt161.1 bt161.2.1 bt161.2.2.1 bt161.2.2.2 4).bind fun bt165 => ((drive_Reset.f bt135.1 bt135.2.1 bt135.2.2.1 bt135.2.2.2 bt165.1 bt165.2.1 bt165.2.2.1 bt165.2.2.2).bind fun bt170 => ((drive_Emergency.f bt135.1 bt135.2.1 bt135.2.2.1 bt135.2.2.2 1 5000 5000 0).bind fun bt176 => ((drive_Step.f k bt135.1 bt135.2.1 bt135.2.2.1 bt135.2.2.2 bt176.1 bt176.2.1 bt176.2.2.1 bt176.2.2.2 3).bind fun bt180 => ((drive_Reset.f bt135.1 bt135.2.1 bt135.2.2.1 bt135.2.2.2 bt180.1 bt180.2.1 bt180.2.2.1 bt180.2.2.2).bind fun bt184 => ((drive_Right.f bt135.1 bt135.2.1 bt135.2.2.1 bt135.2.2.2).bind fun t190 => (if t190 = true then ((drive_Valid.f k bt135.1 bt135.2.1 bt135.2.2.1 bt135.2.2.2 1 5000 5000 0).bind fun t191 => (if t191 = true then ((drive_Valid.f k bt135.1 bt135.2.1 bt135.2.2.1 bt135.2.2.2 0 1 0 0).bind fun t192 => (if t192 = true then (none) else (if bt140.2.2.2.2 = 0 then (if bt170.2.2.2.2 = 0 then (if bt184.2.2.2.2 = 10 then ((drive_Distance.f k bt135.1 bt135.2.1 bt135.2.2.1 bt135.2.2.2 1 5000 5000 0).bind fun t193 => (if t193 = 6000 then (if (bt146.1 == 1 && (bt146.2.1 == 1000 && (bt146.2.2.1 == 1000 && (bt146.2.2.2 == 2200)))) = true then (if (bt155.1 == 0 && (bt155.2.1 == 0 && (bt155.2.2.1 == 0 && (bt155.2.2.2 == 2700)))) = true then (if (bt165.1 == 3 && (bt165.2.1 == 0 && (bt165.2.2.1 == 0 && (bt165.2.2.2 == 6000)))) = true then (some (bt170.1 == 0 && (bt170.2.1 == 0 && (bt170.2.2.1 == 0 && (bt170.2.2.2.1 == 6000))))) else (none)) else (none)) else (none)) else (none))) else (none)) else (none)) else (none)))) else (none))) else (none)))))))))))))
theorem skiarealaw14_alive.mono : ∀ k, LeO (skiarealaw14_alive.f k ) (skiarealaw14_alive.f (k + 1) ) := by
 intro  k
 unfold skiarealaw14_alive.f
 repeat' first
   | (with_reducible exact drive_Distance.mono _ _ _ _ _ _ _ _ _)
   | (with_reducible exact drive_Start.mono _ _ _ _ _ _ _ _ _ _)
   | (with_reducible exact drive_Step.mono _ _ _ _ _ _ _ _ _ _)
   | (with_reducible exact drive_Valid.mono _ _ _ _ _ _ _ _ _)
   | (with_reducible exact LeO.refl _)
   | (with_reducible exact LeO.none _)
   | (with_reducible refine LeO.ite ?_ ?_)
   | (with_reducible refine LeO.bind ?_ (fun _ => ?_))
   | exact drive_Distance.mono _ _ _ _ _ _ _ _ _
   | exact drive_Start.mono _ _ _ _ _ _ _ _ _ _
   | exact drive_Step.mono _ _ _ _ _ _ _ _ _ _
   | exact drive_Valid.mono _ _ _ _ _ _ _ _ _
   | exact LeO.none _
   | refine LeO.ite ?_ ?_
   | refine LeO.bind ?_ (fun _ => ?_)
def skiarealaw14_alive.T8 : Bool × List (List Nat × List Nat) := (true, [([], []), ([], []), ([], []), ([], []), ([2, 3], [2, 3]), ([1, 4, 4], [1, 4]), ([0, 5, 5], [0, 5]), ([6], [6]), ([7], [7]), ([7], [7]), ([], []), ([10, 8, 6, 0, 1, 2, 3, 4, 5, 6, 7, 8, 10], [8, 10]), ([9, 11, 0, 1, 2, 3, 4, 5, 6, 7, 8, 9, 10, 11], [9])])
def skiarealaw14_alive.B8 : List Nat := [0, 0, 0, 0, 12, 30, 63, 127, 255, 255, 0, 1535, 4095]
theorem skiarealaw14_alive.tab8 : rtab .any (opsOf Try.f10 8) = skiarealaw14_alive.T8 := by kernel_rfl
theorem skiarealaw14_alive.bits8 : waitsOk skiarealaw14_alive.T8.2 skiarealaw14_alive.B8 = true := by kernel_rfl
set_option maxHeartbeats 8000000 in
set_option maxRecDepth 100000 in
theorem skiarealaw14_alive.calls (k : Nat)  (r : Bool) (w : World) (h : skiarealaw14_alive.f k  = some r) :
  Calls Try.prog 10 #[] w fun e w' => e = .returned (.bool r) ∧ Below w.heap.size w w' := by
 have hu23 := Try.underlying23
 have hu25 := Try.underlying25
 have HB := Aside0.mk (Below.refl w.heap.size w)
 have H : ((skiarealaw14_motor.f).bind fun bt135 => ((drive_Start.f k bt135.1 bt135.2.1 bt135.2.2.1 bt135.2.2.2 0 0 0 0 1000).bind fun bt140 => ((drive_Step.f k bt135.1 bt135.2.1 bt135.2.2.1 bt135.2.2.2 bt140.1 bt140.2.1 bt140.2.2.1 bt140.2.2.2.1 3).bind fun bt146 => ((drive_Halt.f bt135.1 bt135.2.1 bt135.2.2.1 bt135.2.2.2 bt146.1 bt146.2.1 bt146.2.2.1 bt146.2.2.2).bind fun bt151 => ((drive_Step.f k bt135.1 bt135.2.1 bt135.2.2.1 bt135.2.2.2 bt151.1 bt151.2.1 bt151.2.2.1 bt151.2.2.2 2).bind fun bt155 => ((drive_Emergency.f bt135.1 bt135.2.1 bt135.2.2.1 bt135.2.2.2 1 5000 5000 0).bind fun bt161 => ((drive_Step.f k bt135.1 bt135.2.1 bt135.2.2.1 bt135.2.2.2 bt161.1 bt161.2.1 bt161.2.2.1 bt161.2.2.2 4).bind fun bt165 => ((drive_Reset.f bt135.1 bt135.2.1 bt135.2.2.1 bt135.2.2.2 bt165.1 bt165.2.1 bt165.2.2.1 bt165.2.2.2).bind fun bt170 => ((drive_Emergency.f bt135.1 bt135.2.1 bt135.2.2.1 bt135.2.2.2 1 5000 5000 0).bind fun bt176 => ((drive_Step.f k bt135.1 bt135.2.1 bt135.2.2.1 bt135.2.2.2 bt176.1 bt176.2.1 bt176.2.2.1 bt176.2.2.2 3).bind fun bt180 => ((drive_Reset.f bt135.1 bt135.2.1 bt135.2.2.1 bt135.2.2.2 bt180.1 bt180.2.1 bt180.2.2.1 bt180.2.2.2).bind fun bt184 => ((drive_Right.f bt135.1 bt135.2.1 bt135.2.2.1 bt135.2.2.2).bind fun t190 => (if t190 = true then ((drive_Valid.f k bt135.1 bt135.2.1 bt135.2.2.1 bt135.2.2.2 1 5000 5000 0).bind fun t191 => (if t191 = true then ((drive_Valid.f k bt135.1 bt135.2.1 bt135.2.2.1 bt135.2.2.2 0 1 0 0).bind fun t192 => (if t192 = true then (none) else (if bt140.2.2.2.2 = 0 then (if bt170.2.2.2.2 = 0 then (if bt184.2.2.2.2 = 10 then ((drive_Distance.f k bt135.1 bt135.2.1 bt135.2.2.1 bt135.2.2.2 1 5000 5000 0).bind fun t193 => (if t193 = 6000 then (if (bt146.1 == 1 && (bt146.2.1 == 1000 && (bt146.2.2.1 == 1000 && (bt146.2.2.2 == 2200)))) = true then (if (bt155.1 == 0 && (bt155.2.1 == 0 && (bt155.2.2.1 == 0 && (bt155.2.2.2 == 2700)))) = true then (if (bt165.1 == 3 && (bt165.2.1 == 0 && (bt165.2.2.1 == 0 && (bt165.2.2.2 == 6000)))) = true then (some (bt170.1 == 0 && (bt170.2.1 == 0 && (bt170.2.2.1 == 0 && (bt170.2.2.2.1 == 6000))))) else (none)) else (none)) else (none)) else (none))) else (none)) else (none)) else (none)))) else (none))) else (none)))))))))))))) = some r := h
 clear h
 replace H := Option.bind_eq_some_iff.mp H
 obtain ⟨⟨t135, t136, t137, t138⟩, A10, H⟩ := H
 replace H : ((drive_Start.f k t135 t136 t137 t138 0 0 0 0 1000).bind fun bt140 => ((drive_Step.f k t135 t136 t137 t138 bt140.1 bt140.2.1 bt140.2.2.1 bt140.2.2.2.1 3).bind fun bt146 => ((drive_Halt.f t135 t136 t137 t138 bt146.1 bt146.2.1 bt146.2.2.1 bt146.2.2.2).bind fun bt151 => ((drive_Step.f k t135 t136 t137 t138 bt151.1 bt151.2.1 bt151.2.2.1 bt151.2.2.2 2).bind fun bt155 => ((drive_Emergency.f t135 t136 t137 t138 1 5000 5000 0).bind fun bt161 => ((drive_Step.f k t135 t136 t137 t138 bt161.1 bt161.2.1 bt161.2.2.1 bt161.2.2.2 4).bind fun bt165 => ((drive_Reset.f t135 t136 t137 t138 bt165.1 bt165.2.1 bt165.2.2.1 bt165.2.2.2).bind fun bt170 => ((drive_Emergency.f t135 t136 t137 t138 1 5000 5000 0).bind fun bt176 => ((drive_Step.f k t135 t136 t137 t138 bt176.1 bt176.2.1 bt176.2.2.1 bt176.2.2.2 3).bind fun bt180 => ((drive_Reset.f t135 t136 t137 t138 bt180.1 bt180.2.1 bt180.2.2.1 bt180.2.2.2).bind fun bt184 => ((drive_Right.f t135 t136 t137 t138).bind fun t190 => (if t190 = true then ((drive_Valid.f k t135 t136 t137 t138 1 5000 5000 0).bind fun t191 => (if t191 = true then ((drive_Valid.f k t135 t136 t137 t138 0 1 0 0).bind fun t192 => (if t192 = true then (none) else (if bt140.2.2.2.2 = 0 then (if bt170.2.2.2.2 = 0 then (if bt184.2.2.2.2 = 10 then ((drive_Distance.f k t135 t136 t137 t138 1 5000 5000 0).bind fun t193 => (if t193 = 6000 then (if (bt146.1 == 1 && (bt146.2.1 == 1000 && (bt146.2.2.1 == 1000 && (bt146.2.2.2 == 2200)))) = true then (if (bt155.1 == 0 && (bt155.2.1 == 0 && (bt155.2.2.1 == 0 && (bt155.2.2.2 == 2700)))) = true then (if (bt165.1 == 3 && (bt165.2.1 == 0 && (bt165.2.2.1 == 0 && (bt165.2.2.2 == 6000)))) = true then (some (bt170.1 == 0 && (bt170.2.1 == 0 && (bt170.2.2.1 == 0 && (bt170.2.2.2.1 == 6000))))) else (none)) else (none)) else (none)) else (none))) else (none)) else (none)) else (none)))) else (none))) else (none))))))))))))) = some r := H
 have A1 := Aside0.mk A10
 clear A10
 replace H := Option.bind_eq_some_iff.mp H
 obtain ⟨⟨t140, t141, t142, t143, t144⟩, A20, H⟩ := H
 replace H : ((drive_Step.f k t135 t136 t137 t138 t140 t141 t142 t143 3).bind fun bt146 => ((drive_Halt.f t135 t136 t137 t138 bt146.1 bt146.2.1 bt146.2.2.1 bt146.2.2.2).bind fun bt151 => ((drive_Step.f k t135 t136 t137 t138 bt151.1 bt151.2.1 bt151.2.2.1 bt151.2.2.2 2).bind fun bt155 => ((drive_Emergency.f t135 t136 t137 t138 1 5000 5000 0).bind fun bt161 => ((drive_Step.f k t135 t136 t137 t138 bt161.1 bt161.2.1 bt161.2.2.1 bt161.2.2.2 4).bind fun bt165 => ((drive_Reset.f t135 t136 t137 t138 bt165.1 bt165.2.1 bt165.2.2.1 bt165.2.2.2).bind fun bt170 => ((drive_Emergency.f t135 t136 t137 t138 1 5000 5000 0).bind fun bt176 => ((drive_Step.f k t135 t136 t137 t138 bt176.1 bt176.2.1 bt176.2.2.1 bt176.2.2.2 3).bind fun bt180 => ((drive_Reset.f t135 t136 t137 t138 bt180.1 bt180.2.1 bt180.2.2.1 bt180.2.2.2).bind fun bt184 => ((drive_Right.f t135 t136 t137 t138).bind fun t190 => (if t190 = true then ((drive_Valid.f k t135 t136 t137 t138 1 5000 5000 0).bind fun t191 => (if t191 = true then ((drive_Valid.f k t135 t136 t137 t138 0 1 0 0).bind fun t192 => (if t192 = true then (none) else (if t144 = 0 then (if bt170.2.2.2.2 = 0 then (if bt184.2.2.2.2 = 10 then ((drive_Distance.f k t135 t136 t137 t138 1 5000 5000 0).bind fun t193 => (if t193 = 6000 then (if (bt146.1 == 1 && (bt146.2.1 == 1000 && (bt146.2.2.1 == 1000 && (bt146.2.2.2 == 2200)))) = true then (if (bt155.1 == 0 && (bt155.2.1 == 0 && (bt155.2.2.1 == 0 && (bt155.2.2.2 == 2700)))) = true then (if (bt165.1 == 3 && (bt165.2.1 == 0 && (bt165.2.2.1 == 0 && (bt165.2.2.2 == 6000)))) = true then (some (bt170.1 == 0 && (bt170.2.1 == 0 && (bt170.2.2.1 == 0 && (bt170.2.2.2.1 == 6000))))) else (none)) else (none)) else (none)) else (none))) else (none)) else (none)) else (none)))) else (none))) else (none)))))))))))) = some r := H
 have A2 := Aside0.mk A20
 clear A20
 replace H := Option.bind_eq_some_iff.mp H
 obtain ⟨⟨t146, t147, t148, t149⟩, A30, H⟩ := H
 replace H : ((drive_Halt.f t135 t136 t137 t138 t146 t147 t148 t149).bind fun bt151 => ((drive_Step.f k t135 t136 t137 t138 bt151.1 bt151.2.1 bt151.2.2.1 bt151.2.2.2 2).bind fun bt155 => ((drive_Emergency.f t135 t136 t137 t138 1 5000 5000 0).bind fun bt161 => ((drive_Step.f k t135 t136 t137 t138 bt161.1 bt161.2.1 bt161.2.2.1 bt161.2.2.2 4).bind fun bt165 => ((drive_Reset.f t135 t136 t137 t138 bt165.1 bt165.2.1 bt165.2.2.1 bt165.2.2.2).bind fun bt170 => ((drive_Emergency.f t135 t136 t137 t138 1 5000 5000 0).bind fun bt176 => ((drive_Step.f k t135 t136 t137 t138 bt176.1 bt176.2.1 bt176.2.2.1 bt176.2.2.2 3).bind fun bt180 => ((drive_Reset.f t135 t136 t137 t138 bt180.1 bt180.2.1 bt180.2.2.1 bt180.2.2.2).bind fun bt184 => ((drive_Right.f t135 t136 t137 t138).bind fun t190 => (if t190 = true then ((drive_Valid.f k t135 t136 t137 t138 1 5000 5000 0).bind fun t191 => (if t191 = true then ((drive_Valid.f k t135 t136 t137 t138 0 1 0 0).bind fun t192 => (if t192 = true then (none) else (if t144 = 0 then (if bt170.2.2.2.2 = 0 then (if bt184.2.2.2.2 = 10 then ((drive_Distance.f k t135 t136 t137 t138 1 5000 5000 0).bind fun t193 => (if t193 = 6000 then (if (t146 == 1 && (t147 == 1000 && (t148 == 1000 && (t149 == 2200)))) = true then (if (bt155.1 == 0 && (bt155.2.1 == 0 && (bt155.2.2.1 == 0 && (bt155.2.2.2 == 2700)))) = true then (if (bt165.1 == 3 && (bt165.2.1 == 0 && (bt165.2.2.1 == 0 && (bt165.2.2.2 == 6000)))) = true then (some (bt170.1 == 0 && (bt170.2.1 == 0 && (bt170.2.2.1 == 0 && (bt170.2.2.2.1 == 6000))))) else (none)) else (none)) else (none)) else (none))) else (none)) else (none)) else (none)))) else (none))) else (none))))))))))) = some r := H
 have A3 := Aside0.mk A30
 clear A30
 replace H := Option.bind_eq_some_iff.mp H
 obtain ⟨⟨t151, t152, t153, t154⟩, A40, H⟩ := H
 replace H : ((drive_Step.f k t135 t136 t137 t138 t151 t152 t153 t154 2).bind fun bt155 => ((drive_Emergency.f t135 t136 t137 t138 1 5000 5000 0).bind fun bt161 => ((drive_Step.f k t135 t136 t137 t138 bt161.1 bt161.2.1 bt161.2.2.1 bt161.2.2.2 4).bind fun bt165 => ((drive_Reset.f t135 t136 t137 t138 bt165.1 bt165.2.1 bt165.2.2.1 bt165.2.2.2).bind fun bt170 => ((drive_Emergency.f t135 t136 t137 t138 1 5000 5000 0).bind fun bt176 => ((drive_Step.f k t135 t136 t137 t138 bt176.1 bt176.2.1 bt176.2.2.1 bt176.2.2.2 3).bind fun bt180 => ((drive_Reset.f t135 t136 t137 t138 bt180.1 bt180.2.1 bt180.2.2.1 bt180.2.2.2).bind fun bt184 => ((drive_Right.f t135 t136 t137 t138).bind fun t190 => (if t190 = true then ((drive_Valid.f k t135 t136 t137 t138 1 5000 5000 0).bind fun t191 => (if t191 = true then ((drive_Valid.f k t135 t136 t137 t138 0 1 0 0).bind fun t192 => (if t192 = true then (none) else (if t144 = 0 then (if bt170.2.2.2.2 = 0 then (if bt184.2.2.2.2 = 10 then ((drive_Distance.f k t135 t136 t137 t138 1 5000 5000 0).bind fun t193 => (if t193 = 6000 then (if (t146 == 1 && (t147 == 1000 && (t148 == 1000 && (t149 == 2200)))) = true then (if (bt155.1 == 0 && (bt155.2.1 == 0 && (bt155.2.2.1 == 0 && (bt155.2.2.2 == 2700)))) = true then (if (bt165.1 == 3 && (bt165.2.1 == 0 && (bt165.2.2.1 == 0 && (bt165.2.2.2 == 6000)))) = true then (some (bt170.1 == 0 && (bt170.2.1 == 0 && (bt170.2.2.1 == 0 && (bt170.2.2.2.1 == 6000))))) else (none)) else (none)) else (none)) else (none))) else (none)) else (none)) else (none)))) else (none))) else (none)))))))))) = some r := H
 have A4 := Aside0.mk A40
 clear A40
 replace H := Option.bind_eq_some_iff.mp H
 obtain ⟨⟨t155, t156, t157, t158⟩, A50, H⟩ := H
 replace H : ((drive_Emergency.f t135 t136 t137 t138 1 5000 5000 0).bind fun bt161 => ((drive_Step.f k t135 t136 t137 t138 bt161.1 bt161.2.1 bt161.2.2.1 bt161.2.2.2 4).bind fun bt165 => ((drive_Reset.f t135 t136 t137 t138 bt165.1 bt165.2.1 bt165.2.2.1 bt165.2.2.2).bind fun bt170 => ((drive_Emergency.f t135 t136 t137 t138 1 5000 5000 0).bind fun bt176 => ((drive_Step.f k t135 t136 t137 t138 bt176.1 bt176.2.1 bt176.2.2.1 bt176.2.2.2 3).bind fun bt180 => ((drive_Reset.f t135 t136 t137 t138 bt180.1 bt180.2.1 bt180.2.2.1 bt180.2.2.2).bind fun bt184 => ((drive_Right.f t135 t136 t137 t138).bind fun t190 => (if t190 = true then ((drive_Valid.f k t135 t136 t137 t138 1 5000 5000 0).bind fun t191 => (if t191 = true then ((drive_Valid.f k t135 t136 t137 t138 0 1 0 0).bind fun t192 => (if t192 = true then (none) else (if t144 = 0 then (if bt170.2.2.2.2 = 0 then (if bt184.2.2.2.2 = 10 then ((drive_Distance.f k t135 t136 t137 t138 1 5000 5000 0).bind fun t193 => (if t193 = 6000 then (if (t146 == 1 && (t147 == 1000 && (t148 == 1000 && (t149 == 2200)))) = true then (if (t155 == 0 && (t156 == 0 && (t157 == 0 && (t158 == 2700)))) = true then (if (bt165.1 == 3 && (bt165.2.1 == 0 && (bt165.2.2.1 == 0 && (bt165.2.2.2 == 6000)))) = true then (some (bt170.1 == 0 && (bt170.2.1 == 0 && (bt170.2.2.1 == 0 && (bt170.2.2.2.1 == 6000))))) else (none)) else (none)) else (none)) else (none))) else (none)) else (none)) else (none)))) else (none))) else (none))))))))) = some r := H
 have A5 := Aside0.mk A50
 clear A50
 replace H := Option.bind_eq_some_iff.mp H
 obtain ⟨⟨t161, t162, t163, t164⟩, A60, H⟩ := H
 replace H : ((drive_Step.f k t135 t136 t137 t138 t161 t162 t163 t164 4).bind fun bt165 => ((drive_Reset.f t135 t136 t137 t138 bt165.1 bt165.2.1 bt165.2.2.1 bt165.2.2.2).bind fun bt170 => ((drive_Emergency.f t135 t136 t137 t138 1 5000 5000 0).bind fun bt176 => ((drive_Step.f k t135 t136 t137 t138 bt176.1 bt176.2.1 bt176.2.2.1 bt176.2.2.2 3).bind fun bt180 => ((drive_Reset.f t135 t136 t137 t138 bt180.1 bt180.2.1 bt180.2.2.1 bt180.2.2.2).bind fun bt184 => ((drive_Right.f t135 t136 t137 t138).bind fun t190 => (if t190 = true then ((drive_Valid.f k t135 t136 t137 t138 1 5000 5000 0).bind fun t191 => (if t191 = true then ((drive_Valid.f k t135 t136 t137 t138 0 1 0 0).bind fun t192 => (if t192 = true then (none) else (if t144 = 0 then (if bt170.2.2.2.2 = 0 then (if bt184.2.2.2.2 = 10 then ((drive_Distance.f k t135 t136 t137 t138 1 5000 5000 0).bind fun t193 => (if t193 = 6000 then (if (t146 == 1 && (t147 == 1000 && (t148 == 1000 && (t149 == 2200)))) = true then (if (t155 == 0 && (t156 == 0 && (t157 == 0 && (t158 == 2700)))) = true then (if (bt165.1 == 3 && (bt165.2.1 == 0 && (bt165.2.2.1 == 0 && (bt165.2.2.2 == 6000)))) = true then (some (bt170.1 == 0 && (bt170.2.1 == 0 && (bt170.2.2.1 == 0 && (bt170.2.2.2.1 == 6000))))) else (none)) else (none)) else (none)) else (none))) else (none)) else (none)) else (none)))) else (none))) else (none)))))))) = some r := H
 have A6 := Aside0.mk A60
 clear A60
 replace H := Option.bind_eq_some_iff.mp H
 obtain ⟨⟨t165, t166, t167, t168⟩, A70, H⟩ := H
 replace H : ((drive_Reset.f t135 t136 t137 t138 t165 t166 t167 t168).bind fun bt170 => ((drive_Emergency.f t135 t136 t137 t138 1 5000 5000 0).bind fun bt176 => ((drive_Step.f k t135 t136 t137 t138 bt176.1 bt176.2.1 bt176.2.2.1 bt176.2.2.2 3).bind fun bt180 => ((drive_Reset.f t135 t136 t137 t138 bt180.1 bt180.2.1 bt180.2.2.1 bt180.2.2.2).bind fun bt184 => ((drive_Right.f t135 t136 t137 t138).bind fun t190 => (if t190 = true then ((drive_Valid.f k t135 t136 t137 t138 1 5000 5000 0).bind fun t191 => (if t191 = true then ((drive_Valid.f k t135 t136 t137 t138 0 1 0 0).bind fun t192 => (if t192 = true then (none) else (if t144 = 0 then (if bt170.2.2.2.2 = 0 then (if bt184.2.2.2.2 = 10 then ((drive_Distance.f k t135 t136 t137 t138 1 5000 5000 0).bind fun t193 => (if t193 = 6000 then (if (t146 == 1 && (t147 == 1000 && (t148 == 1000 && (t149 == 2200)))) = true then (if (t155 == 0 && (t156 == 0 && (t157 == 0 && (t158 == 2700)))) = true then (if (t165 == 3 && (t166 == 0 && (t167 == 0 && (t168 == 6000)))) = true then (some (bt170.1 == 0 && (bt170.2.1 == 0 && (bt170.2.2.1 == 0 && (bt170.2.2.2.1 == 6000))))) else (none)) else (none)) else (none)) else (none))) else (none)) else (none)) else (none)))) else (none))) else (none))))))) = some r := H
 have A7 := Aside0.mk A70
 clear A70
 replace H := Option.bind_eq_some_iff.mp H
 obtain ⟨⟨t170, t171, t172, t173, t174⟩, A80, H⟩ := H
 replace H : ((drive_Emergency.f t135 t136 t137 t138 1 5000 5000 0).bind fun bt176 => ((drive_Step.f k t135 t136 t137 t138 bt176.1 bt176.2.1 bt176.2.2.1 bt176.2.2.2 3).bind fun bt180 => ((drive_Reset.f t135 t136 t137 t138 bt180.1 bt180.2.1 bt180.2.2.1 bt180.2.2.2).bind fun bt184 => ((drive_Right.f t135 t136 t137 t138).bind fun t190 => (if t190 = true then ((drive_Valid.f k t135 t136 t137 t138 1 5000 5000 0).bind fun t191 => (if t191 = true then ((drive_Valid.f k t135 t136 t137 t138 0 1 0 0).bind fun t192 => (if t192 = true then (none) else (if t144 = 0 then (if t174 = 0 then (if bt184.2.2.2.2 = 10 then ((drive_Distance.f k t135 t136 t137 t138 1 5000 5000 0).bind fun t193 => (if t193 = 6000 then (if (t146 == 1 && (t147 == 1000 && (t148 == 1000 && (t149 == 2200)))) = true then (if (t155 == 0 && (t156 == 0 && (t157 == 0 && (t158 == 2700)))) = true then (if (t165 == 3 && (t166 == 0 && (t167 == 0 && (t168 == 6000)))) = true then (some (t170 == 0 && (t171 == 0 && (t172 == 0 && (t173 == 6000))))) else (none)) else (none)) else (none)) else (none))) else (none)) else (none)) else (none)))) else (none))) else (none)))))) = some r := H
 have A8 := Aside0.mk A80
 clear A80
 replace H := Option.bind_eq_some_iff.mp H
 obtain ⟨⟨t176, t177, t178, t179⟩, A90, H⟩ := H
 replace H : ((drive_Step.f k t135 t136 t137 t138 t176 t177 t178 t179 3).bind fun bt180 => ((drive_Reset.f t135 t136 t137 t138 bt180.1 bt180.2.1 bt180.2.2.1 bt180.2.2.2).bind fun bt184 => ((drive_Right.f t135 t136 t137 t138).bind fun t190 => (if t190 = true then ((drive_Valid.f k t135 t136 t137 t138 1 5000 5000 0).bind fun t191 => (if t191 = true then ((drive_Valid.f k t135 t136 t137 t138 0 1 0 0).bind fun t192 => (if t192 = true then (none) else (if t144 = 0 then (if t174 = 0 then (if bt184.2.2.2.2 = 10 then ((drive_Distance.f k t135 t136 t137 t138 1 5000 5000 0).bind fun t193 => (if t193 = 6000 then (if (t146 == 1 && (t147 == 1000 && (t148 == 1000 && (t149 == 2200)))) = true then (if (t155 == 0 && (t156 == 0 && (t157 == 0 && (t158 == 2700)))) = true then (if (t165 == 3 && (t166 == 0 && (t167 == 0 && (t168 == 6000)))) = true then (some (t170 == 0 && (t171 == 0 && (t172 == 0 && (t173 == 6000))))) else (none)) else (none)) else (none)) else (none))) else (none)) else (none)) else (none)))) else (none))) else (none))))) = some r := H
 have A9 := Aside0.mk A90
 clear A90
 replace H := Option.bind_eq_some_iff.mp H
 obtain ⟨⟨t180, t181, t182, t183⟩, A100, H⟩ := H
 replace H : ((drive_Reset.f t135 t136 t137 t138 t180 t181 t182 t183).bind fun bt184 => ((drive_Right.f t135 t136 t137 t138).bind fun t190 => (if t190 = true then ((drive_Valid.f k t135 t136 t137 t138 1 5000 5000 0).bind fun t191 => (if t191 = true then ((drive_Valid.f k t135 t136 t137 t138 0 1 0 0).bind fun t192 => (if t192 = true then (none) else (if t144 = 0 then (if t174 = 0 then (if bt184.2.2.2.2 = 10 then ((drive_Distance.f k t135 t136 t137 t138 1 5000 5000 0).bind fun t193 => (if t193 = 6000 then (if (t146 == 1 && (t147 == 1000 && (t148 == 1000 && (t149 == 2200)))) = true then (if (t155 == 0 && (t156 == 0 && (t157 == 0 && (t158 == 2700)))) = true then (if (t165 == 3 && (t166 == 0 && (t167 == 0 && (t168 == 6000)))) = true then (some (t170 == 0 && (t171 == 0 && (t172 == 0 && (t173 == 6000))))) else (none)) else (none)) else (none)) else (none))) else (none)) else (none)) else (none)))) else (none))) else (none)))) = some r := H
 have A10 := Aside0.mk A100
 clear A100
 replace H := Option.bind_eq_some_iff.mp H
 obtain ⟨⟨t184, t185, t186, t187, t188⟩, A110, H⟩ := H
 replace H : ((drive_Right.f t135 t136 t137 t138).bind fun t190 => (if t190 = true then ((drive_Valid.f k t135 t136 t137 t138 1 5000 5000 0).bind fun t191 => (if t191 = true then ((drive_Valid.f k t135 t136 t137 t138 0 1 0 0).bind fun t192 => (if t192 = true then (none) else (if t144 = 0 then (if t174 = 0 then (if t188 = 10 then ((drive_Distance.f k t135 t136 t137 t138 1 5000 5000 0).bind fun t193 => (if t193 = 6000 then (if (t146 == 1 && (t147 == 1000 && (t148 == 1000 && (t149 == 2200)))) = true then (if (t155 == 0 && (t156 == 0 && (t157 == 0 && (t158 == 2700)))) = true then (if (t165 == 3 && (t166 == 0 && (t167 == 0 && (t168 == 6000)))) = true then (some (t170 == 0 && (t171 == 0 && (t172 == 0 && (t173 == 6000))))) else (none)) else (none)) else (none)) else (none))) else (none)) else (none)) else (none)))) else (none))) else (none))) = some r := H
 have A11 := Aside0.mk A110
 clear A110
 replace H := Option.bind_eq_some_iff.mp H
 obtain ⟨t190, A120, H⟩ := H
 replace H : (if t190 = true then ((drive_Valid.f k t135 t136 t137 t138 1 5000 5000 0).bind fun t191 => (if t191 = true then ((drive_Valid.f k t135 t136 t137 t138 0 1 0 0).bind fun t192 => (if t192 = true then (none) else (if t144 = 0 then (if t174 = 0 then (if t188 = 10 then ((drive_Distance.f k t135 t136 t137 t138 1 5000 5000 0).bind fun t193 => (if t193 = 6000 then (if (t146 == 1 && (t147 == 1000 && (t148 == 1000 && (t149 == 2200)))) = true then (if (t155 == 0 && (t156 == 0 && (t157 == 0 && (t158 == 2700)))) = true then (if (t165 == 3 && (t166 == 0 && (t167 == 0 && (t168 == 6000)))) = true then (some (t170 == 0 && (t171 == 0 && (t172 == 0 && (t173 == 6000))))) else (none)) else (none)) else (none)) else (none))) else (none)) else (none)) else (none)))) else (none))) else (none)) = some r := H
 have A12 := Aside0.mk A120
 clear A120
 by_cases c13 : t190 = true
 ·subst c13
  have H1 : ((drive_Valid.f k t135 t136 t137 t138 1 5000 5000 0).bind fun t191 => (if t191 = true then ((drive_Valid.f k t135 t136 t137 t138 0 1 0 0).bind fun t192 => (if t192 = true then (none) else (if t144 = 0 then (if t174 = 0 then (if t188 = 10 then ((drive_Distance.f k t135 t136 t137 t138 1 5000 5000 0).bind fun t193 => (if t193 = 6000 then (if (t146 == 1 && (t147 == 1000 && (t148 == 1000 && (t149 == 2200)))) = true then (if (t155 == 0 && (t156 == 0 && (t157 == 0 && (t158 == 2700)))) = true then (if (t165 == 3 && (t166 == 0 && (t167 == 0 && (t168 == 6000)))) = true then (some (t170 == 0 && (t171 == 0 && (t172 == 0 && (t173 == 6000))))) else (none)) else (none)) else (none)) else (none))) else (none)) else (none)) else (none)))) else (none))) = some r := by rw [if_pos rfl] at H; exact H
  clear H
  have H := H1
  clear H1
  replace H := Option.bind_eq_some_iff.mp H
  obtain ⟨t191, A140, H⟩ := H
  replace H : (if t191 = true then ((drive_Valid.f k t135 t136 t137 t138 0 1 0 0).bind fun t192 => (if t192 = true then (none) else (if t144 = 0 then (if t174 = 0 then (if t188 = 10 then ((drive_Distance.f k t135 t136 t137 t138 1 5000 5000 0).bind fun t193 => (if t193 = 6000 then (if (t146 == 1 && (t147 == 1000 && (t148 == 1000 && (t149 == 2200)))) = true then (if (t155 == 0 && (t156 == 0 && (t157 == 0 && (t158 == 2700)))) = true then (if (t165 == 3 && (t166 == 0 && (t167 == 0 && (t168 == 6000)))) = true then (some (t170 == 0 && (t171 == 0 && (t172 == 0 && (t173 == 6000))))) else (none)) else (none)) else (none)) else (none))) else (none)) else (none)) else (none)))) else (none)) = some r := H
  have A14 := Aside0.mk A140
  clear A140
  by_cases c15 : t191 = true
  ·subst c15
   have H1 : ((drive_Valid.f k t135 t136 t137 t138 0 1 0 0).bind fun t192 => (if t192 = true then (none) else (if t144 = 0 then (if t174 = 0 then (if t188 = 10 then ((drive_Distance.f k t135 t136 t137 t138 1 5000 5000 0).bind fun t193 => (if t193 = 6000 then (if (t146 == 1 && (t147 == 1000 && (t148 == 1000 && (t149 == 2200)))) = true then (if (t155 == 0 && (t156 == 0 && (t157 == 0 && (t158 == 2700)))) = true then (if (t165 == 3 && (t166 == 0 && (t167 == 0 && (t168 == 6000)))) = true then (some (t170 == 0 && (t171 == 0 && (t172 == 0 && (t173 == 6000))))) else (none)) else (none)) else (none)) else (none))) else (none)) else (none)) else (none)))) = some r := by rw [if_pos rfl] at H; exact H
   clear H
   have H := H1
   clear H1
   replace H := Option.bind_eq_some_iff.mp H
   obtain ⟨t192, A160, H⟩ := H
   replace H : (if t192 = true then (none) else (if t144 = 0 then (if t174 = 0 then (if t188 = 10 then ((drive_Distance.f k t135 t136 t137 t138 1 5000 5000 0).bind fun t193 => (if t193 = 6000 then (if (t146 == 1 && (t147 == 1000 && (t148 == 1000 && (t149 == 2200)))) = true then (if (t155 == 0 && (t156 == 0 && (t157 == 0 && (t158 == 2700)))) = true then (if (t165 == 3 && (t166 == 0 && (t167 == 0 && (t168 == 6000)))) = true then (some (t170 == 0 && (t171 == 0 && (t172 == 0 && (t173 == 6000))))) else (none)) else (none)) else (none)) else (none))) else (none)) else (none)) else (none))) = some r := H
   have A16 := Aside0.mk A160
   clear A160
   by_cases c17 : t192 = true
   ·subst c17
    have H1 : (none) = some r := by rw [if_pos rfl] at H; exact H
    clear H
    have H := H1
    clear H1
    exact absurd H (by simp)
   ·replace c17 := Bool.eq_false_iff.mpr c17
    subst c17
    have H1 : (if t144 = 0 then (if t174 = 0 then (if t188 = 10 then ((drive_Distance.f k t135 t136 t137 t138 1 5000 5000 0).bind fun t193 => (if t193 = 6000 then (if (t146 == 1 && (t147 == 1000 && (t148 == 1000 && (t149 == 2200)))) = true then (if (t155 == 0 && (t156 == 0 && (t157 == 0 && (t158 == 2700)))) = true then (if (t165 == 3 && (t166 == 0 && (t167 == 0 && (t168 == 6000)))) = true then (some (t170 == 0 && (t171 == 0 && (t172 == 0 && (t173 == 6000))))) else (none)) else (none)) else (none)) else (none))) else (none)) else (none)) else (none)) = some r := by rw [if_neg (show ¬ (false = true) by decide)] at H; exact H
    clear H
    have H := H1
    clear H1
    by_cases c18 : t144 = 0
    ·rw [if_pos c18] at H
     have c18b0 : (t144 == 0) = true := beq_iff_eq.mpr c18
     have c18b1 : (t144 != 0) = false := bne_eq_false_iff_eq.mpr c18
     clear c18
     by_cases c19 : t174 = 0
     ·rw [if_pos c19] at H
      have c19b0 : (t174 == 0) = true := beq_iff_eq.mpr c19
      have c19b1 : (t174 != 0) = false := bne_eq_false_iff_eq.mpr c19
      clear c19
      by_cases c20 : t188 = 10
      ·rw [if_pos c20] at H
       have c20b0 : (t188 == 10) = true := beq_iff_eq.mpr c20
       have c20b1 : (t188 != 10) = false := bne_eq_false_iff_eq.mpr c20
       clear c20
       replace H := Option.bind_eq_some_iff.mp H
       obtain ⟨t193, A210, H⟩ := H
       replace H : (if t193 = 6000 then (if (t146 == 1 && (t147 == 1000 && (t148 == 1000 && (t149 == 2200)))) = true then (if (t155 == 0 && (t156 == 0 && (t157 == 0 && (t158 == 2700)))) = true then (if (t165 == 3 && (t166 == 0 && (t167 == 0 && (t168 == 6000)))) = true then (some (t170 == 0 && (t171 == 0 && (t172 == 0 && (t173 == 6000))))) else (none)) else (none)) else (none)) else (none)) = some r := H
       have A21 := Aside0.mk A210
       clear A210
       by_cases c22 : t193 = 6000
       ·rw [if_pos c22] at H
        have c22b0 : (t193 == 6000) = true := beq_iff_eq.mpr c22
        have c22b1 : (t193 != 6000) = false := bne_eq_false_iff_eq.mpr c22
        clear c22
        by_cases c23 : (t146 == 1 && (t147 == 1000 && (t148 == 1000 && (t149 == 2200)))) = true
        ·rw [if_pos c23] at H
         have c23b0 : (t146 == 1 && (t147 == 1000 && (t148 == 1000 && (t149 == 2200)))) = true := c23
         (try (have c23b1 : decide (t146 = 1 && (t147 == 1000 && (t148 == 1000 && (t149 == 2200)))) = true := by simpa using c23))
         (try (have c23b2 : (t146 == 1 && (t147 == 1000 && (t148 == 1000 && (t149 == 2200)))) = true := by simpa using c23))
         clear c23
         by_cases c24 : (t155 == 0 && (t156 == 0 && (t157 == 0 && (t158 == 2700)))) = true
         ·rw [if_pos c24] at H
          have c24b0 : (t155 == 0 && (t156 == 0 && (t157 == 0 && (t158 == 2700)))) = true := c24
          (try (have c24b1 : decide (t155 = 0 && (t156 == 0 && (t157 == 0 && (t158 == 2700)))) = true := by simpa using c24))
          (try (have c24b2 : (t155 == 0 && (t156 == 0 && (t157 == 0 && (t158 == 2700)))) = true := by simpa using c24))
          clear c24
          by_cases c25 : (t165 == 3 && (t166 == 0 && (t167 == 0 && (t168 == 6000)))) = true
          ·rw [if_pos c25] at H
           have c25b0 : (t165 == 3 && (t166 == 0 && (t167 == 0 && (t168 == 6000)))) = true := c25
           (try (have c25b1 : decide (t165 = 3 && (t166 == 0 && (t167 == 0 && (t168 == 6000)))) = true := by simpa using c25))
           (try (have c25b2 : (t165 == 3 && (t166 == 0 && (t167 == 0 && (t168 == 6000)))) = true := by simpa using c25))
           clear c25
           obtain rfl := Option.some.inj H
           go_enter Try.func10, Try.ntmps10
           try go_wp2_with (first | ((with_reducible refine gate_callee (f := 29) rfl ?_); refine goesL_ (some 12) rfl rfl Try.func29 (by kernel_rfl) rfl #[] rfl (by (try simp only [List.map_toArray, List.map_cons, List.map_nil]); first | done | rfl | (simp only [List.length_drop, List.length_take]; rfl)) ?_; (with_reducible refine (skiarealaw14_motor.calls  t135 t136 t137 t138 _ A1.out).mono ?_); rintro e w26 ⟨rfl, hb⟩; refine ⟨_, rfl, ?_⟩; have n0_ := Aside0.mk (below_step (by repeat (first | (with_reducible first | exact HB.out | apply below_alloc | apply pw_below_drewN | apply below_drew1) | exact HB.out)) hb); clear HB; have HB := n0_; clear n0_; (try clear hb); (try clear hb2); (try clear hk); (try clear hi)) | ((with_reducible refine gate_dst (N := 1) rfl ?_); refine box_event ?hg (N := 1) ?hd (cs := #[.int .i64 0, .int .i64 0, .int .i64 0, .int .i64 0]) (t := 23) ?hr ?_; (case hd => rfl); (case hg => rfl); (case hr => first | (go_simp; done) | (go_simp; rfl)); intro gb139 hg w27 hbox hb; have n0_ := Aside0.mk (below_step (by repeat (first | (with_reducible first | exact HB.out | apply below_alloc | apply pw_below_drewN | apply below_drew1) | exact HB.out)) hb); have n1_ := Aside0.mk (hbox); have n2_ := Aside0.mk ((by rw [hg]; exact (below_size (by repeat (first | (with_reducible first | exact HB.out | apply below_alloc | apply pw_below_drewN | apply below_drew1) | exact HB.out))) : w.heap.size ≤ gb139)); have n3_ := Aside0.mk ((by rw [hg]; exact (below_size (by repeat (first | (with_reducible first | exact HB.out | apply below_alloc | apply pw_below_drewN | apply below_drew1) | exact HB.out))) : w.heap.size ≤ gb139)); clear HB; have HB := n0_; have BK139 := n1_; have GW139 := n2_; have GE139 := n3_; clear n0_ n1_ n2_ n3_; clear hb hbox hg; have hcz28_0 : w27.cell? ⟨gb139, 0, none⟩ = some (.int .i64 0) := (blk_cell BK139.out 0).trans rfl; have hcz28_1 : w27.cell? ⟨gb139, 1, none⟩ = some (.int .i64 0) := (blk_cell BK139.out 1).trans rfl; have hcz28_2 : w27.cell? ⟨gb139, 2, none⟩ = some (.int .i64 0) := (blk_cell BK139.out 2).trans rfl; have hcz28_3 : w27.cell? ⟨gb139, 3, none⟩ = some (.int .i64 0) := (blk_cell BK139.out 3).trans rfl; have hfz28_0 := blk_frozen BK139.out 0; have hfz28_1 := blk_frozen BK139.out 1; have hfz28_2 := blk_frozen BK139.out 2; have hfz28_3 := blk_frozen BK139.out 3) | ((with_reducible refine gate_callee (f := 16) rfl ?_); refine goesL_ (some 16) rfl rfl Try.func16 (by kernel_rfl) rfl #[.agg #[.int .i64 t135, .int .i64 t136, .int .i64 t137, .int .i64 t138], .agg #[.int .i64 0, .int .i64 0, .int .i64 0, .int .i64 0], .int .i64 1000] rfl (by (try simp only [List.map_toArray, List.map_cons, List.map_nil]); first | done | rfl | (simp only [List.length_drop, List.length_take]; rfl)) ?_; (with_reducible refine (drive_Start.calls k t135 t136 t137 t138 0 0 0 0 1000 t140 t141 t142 t143 t144 _ A2.out).mono ?_); rintro e w29 ⟨rfl, hb⟩; refine ⟨_, rfl, ?_⟩; have n0_ := Aside0.mk (blk_below (g := gb139) (o := .cells #[.int .i64 t135, .int .i64 t136, .int .i64 t137, .int .i64 t138] 23 (0, 0)) (by (with_reducible repeat (first | refine blk_drewN ?_ _ | refine blk_drew ?_ | refine blk_alloc ?_ _)); refine blk_put (cs := #[.int .i64 t135, .int .i64 t136, .int .i64 t137, .int .i64 0]) ?_ 3 _ rfl; (with_reducible repeat (first | refine blk_drewN ?_ _ | refine blk_drew ?_ | refine blk_alloc ?_ _)); refine blk_put (cs := #[.int .i64 t135, .int .i64 t136, .int .i64 0, .int .i64 0]) ?_ 2 _ rfl; (with_reducible repeat (first | refine blk_drewN ?_ _ | refine blk_drew ?_ | refine blk_alloc ?_ _)); refine blk_put (cs := #[.int .i64 t135, .int .i64 0, .int .i64 0, .int .i64 0]) ?_ 1 _ rfl; (with_reducible repeat (first | refine blk_drewN ?_ _ | refine blk_drew ?_ | refine blk_alloc ?_ _)); refine blk_put (cs := #[.int .i64 0, .int .i64 0, .int .i64 0, .int .i64 0]) ?_ 0 _ rfl; (with_reducible repeat (first | refine blk_drewN ?_ _ | refine blk_drew ?_ | refine blk_alloc ?_ _)); exact BK139.out) hb); have n1_ := Aside0.mk (below_step (by repeat (first | (with_reducible first | exact HB.out | apply below_alloc | apply pw_below_drewN | apply below_drew1 | refine below_set ?_ GE139.out) | exact HB.out)) hb); clear BK139; clear HB; have BK139 := n0_; have HB := n1_; clear n0_ n1_; (try clear hb); (try clear hb2); (try clear hk); (try clear hi)) | ((with_reducible refine gate_dst (N := 2) rfl ?_); refine box_event ?hg (N := 2) ?hd (cs := #[.int .i64 0, .int .i64 0, .int .i64 0, .int .i64 0]) (t := 25) ?hr ?_; (case hd => rfl); (case hg => rfl); (case hr => first | (go_simp; done) | (go_simp; rfl)); intro gb145 hg w30 hbox hb; have n0_ := Aside0.mk (bb_ BK139.out hb); have n1_ := Aside0.mk (below_step (by repeat (first | (with_reducible first | exact HB.out | apply below_alloc | apply pw_below_drewN | apply below_drew1 | refine below_set ?_ GE139.out) | exact HB.out)) hb); have n2_ := Aside0.mk (hbox); have n3_ := Aside0.mk ((by rw [hg]; exact (below_size (by repeat (first | (with_reducible first | exact HB.out | apply below_alloc | apply pw_below_drewN | apply below_drew1 | refine below_set ?_ GE139.out) | exact HB.out))) : w.heap.size ≤ gb145)); have n4_ := Aside0.mk ((by rw [hg]; exact (below_size (by repeat (first | (with_reducible first | exact HB.out | apply below_alloc | apply pw_below_drewN | apply below_drew1 | refine below_set ?_ GE139.out) | exact HB.out))) : w.heap.size ≤ gb145)); have n5_ := Aside0.mk ((by rw [hg]; exact Nat.ne_of_lt (blk_lt (g := gb139) (o := .cells #[.int .i64 t135, .int .i64 t136, .int .i64 t137, .int .i64 t138] 23 (0, 0)) (by (with_reducible repeat (first | refine blk_drewN ?_ _ | refine blk_drew ?_ | refine blk_alloc ?_ _)); exact BK139.out)) : gb139 ≠ gb145)); have n6_ := Aside0.mk ((by rw [hg]; exact Nat.ne_of_gt (blk_lt (g := gb139) (o := .cells #[.int .i64 t135, .int .i64 t136, .int .i64 t137, .int .i64 t138] 23 (0, 0)) (by (with_reducible repeat (first | refine blk_drewN ?_ _ | refine blk_drew ?_ | refine blk_alloc ?_ _)); exact BK139.out)) : gb145 ≠ gb139)); clear BK139; clear HB; have BK139 := n0_; have HB := n1_; have BK145 := n2_; have GW145 := n3_; have GE145 := n4_; have NB139_145 := n5_; have NB145_139 := n6_; clear n0_ n1_ n2_ n3_ n4_ n5_ n6_; clear hb hbox hg; have hnb31 := NB145_139.out; have hnc31 := NB139_145.out; have hcz32_0 : w30.cell? ⟨gb145, 0, none⟩ = some (.int .i64 0) := (blk_cell BK145.out 0).trans rfl; have hcz32_1 : w30.cell? ⟨gb145, 1, none⟩ = some (.int .i64 0) := (blk_cell BK145.out 1).trans rfl; have hcz32_2 : w30.cell? ⟨gb145, 2, none⟩ = some (.int .i64 0) := (blk_cell BK145.out 2).trans rfl; have hcz32_3 : w30.cell? ⟨gb145, 3, none⟩ = some (.int .i64 0) := (blk_cell BK145.out 3).trans rfl; have hfz32_0 := blk_frozen BK145.out 0; have hfz32_1 := blk_frozen BK145.out 1; have hfz32_2 := blk_frozen BK145.out 2; have hfz32_3 := blk_frozen BK145.out 3; have hcz33_0 : w30.cell? ⟨gb139, 0, none⟩ = some (.int .i64 t135) := (blk_cell BK139.out 0).trans rfl; have hcz33_1 : w30.cell? ⟨gb139, 1, none⟩ = some (.int .i64 t136) := (blk_cell BK139.out 1).trans rfl; have hcz33_2 : w30.cell? ⟨gb139, 2, none⟩ = some (.int .i64 t137) := (blk_cell BK139.out 2).trans rfl; have hcz33_3 : w30.cell? ⟨gb139, 3, none⟩ = some (.int .i64 t138) := (blk_cell BK139.out 3).trans rfl; have hfz33_0 := blk_frozen BK139.out 0; have hfz33_1 := blk_frozen BK139.out 1; have hfz33_2 := blk_frozen BK139.out 2; have hfz33_3 := blk_frozen BK139.out 3) | ((with_reducible refine gate_callee (f := 24) rfl ?_); refine goesL_ (some 21) rfl rfl Try.func24 (by kernel_rfl) rfl #[.agg #[.int .i64 t135, .int .i64 t136, .int .i64 t137, .int .i64 t138], .agg #[.int .i64 t140, .int .i64 t141, .int .i64 t142, .int .i64 t143], .int .i64 3] rfl (by (try simp only [List.map_toArray, List.map_cons, List.map_nil]); first | done | rfl | (simp only [List.length_drop, List.length_take]; rfl)) ?_; (with_reducible refine (drive_Step.calls k t135 t136 t137 t138 t140 t141 t142 t143 3 t146 t147 t148 t149 _ A3.out).mono ?_); rintro e w34 ⟨rfl, hb⟩; refine ⟨_, rfl, ?_⟩; have n0_ := Aside0.mk (blk_below (g := gb139) (o := .cells #[.int .i64 t135, .int .i64 t136, .int .i64 t137, .int .i64 t138] 23 (0, 0)) (by (with_reducible repeat (first | refine blk_drewN ?_ _ | refine blk_drew ?_ | refine blk_alloc ?_ _)); refine blk_far ?_ NB139_145.out _; (with_reducible repeat (first | refine blk_drewN ?_ _ | refine blk_drew ?_ | refine blk_alloc ?_ _)); refine blk_far ?_ NB139_145.out _; (with_reducible repeat (first | refine blk_drewN ?_ _ | refine blk_drew ?_ | refine blk_alloc ?_ _)); refine blk_far ?_ NB139_145.out _; (with_reducible repeat (first | refine blk_drewN ?_ _ | refine blk_drew ?_ | refine blk_alloc ?_ _)); refine blk_far ?_ NB139_145.out _; (with_reducible repeat (first | refine blk_drewN ?_ _ | refine blk_drew ?_ | refine blk_alloc ?_ _)); exact BK139.out) hb); have n1_ := Aside0.mk (blk_below (g := gb145) (o := .cells #[.int .i64 t140, .int .i64 t141, .int .i64 t142, .int .i64 t143] 25 (0, 0)) (by (with_reducible repeat (first | refine blk_drewN ?_ _ | refine blk_drew ?_ | refine blk_alloc ?_ _)); refine blk_put (cs := #[.int .i64 t140, .int .i64 t141, .int .i64 t142, .int .i64 0]) ?_ 3 _ rfl; (with_reducible repeat (first | refine blk_drewN ?_ _ | refine blk_drew ?_ | refine blk_alloc ?_ _)); refine blk_put (cs := #[.int .i64 t140, .int .i64 t141, .int .i64 0, .int .i64 0]) ?_ 2 _ rfl; (with_reducible repeat (first | refine blk_drewN ?_ _ | refine blk_drew ?_ | refine blk_alloc ?_ _)); refine blk_put (cs := #[.int .i64 t140, .int .i64 0, .int .i64 0, .int .i64 0]) ?_ 1 _ rfl; (with_reducible repeat (first | refine blk_drewN ?_ _ | refine blk_drew ?_ | refine blk_alloc ?_ _)); refine blk_put (cs := #[.int .i64 0, .int .i64 0, .int .i64 0, .int .i64 0]) ?_ 0 _ rfl; (with_reducible repeat (first | refine blk_drewN ?_ _ | refine blk_drew ?_ | refine blk_alloc ?_ _)); exact BK145.out) hb); have n2_ := Aside0.mk (below_step (by repeat (first | (with_reducible first | exact HB.out | apply below_alloc | apply pw_below_drewN | apply below_drew1 | refine below_set ?_ GE139.out | refine below_set ?_ GE145.out) | exact HB.out)) hb); clear BK139; clear BK145; clear HB; have BK139 := n0_; have BK145 := n1_; have HB := n2_; clear n0_ n1_ n2_; (try clear hb); (try clear hb2); (try clear hk); (try clear hi)) | ((with_reducible refine gate_dst (N := 4) rfl ?_); refine box_event ?hg (N := 4) ?hd (cs := #[.int .i64 0, .int .i64 0, .int .i64 0, .int .i64 0]) (t := 25) ?hr ?_; (case hd => rfl); (case hg => rfl); (case hr => first | (go_simp; done) | (go_simp; rfl)); intro gb150 hg w35 hbox hb; have n0_ := Aside0.mk (bb_ BK139.out hb); have n1_ := Aside0.mk (bb_ BK145.out hb); have n2_ := Aside0.mk (below_step (by repeat (first | (with_reducible first | exact HB.out | apply below_alloc | apply pw_below_drewN | apply below_drew1 | refine below_set ?_ GE139.out | refine below_set ?_ GE145.out) | exact HB.out)) hb); have n3_ := Aside0.mk (hbox); have n4_ := Aside0.mk ((by rw [hg]; exact (below_size (by repeat (first | (with_reducible first | exact HB.out | apply below_alloc | apply pw_below_drewN | apply below_drew1 | refine below_set ?_ GE139.out | refine below_set ?_ GE145.out) | exact HB.out))) : w.heap.size ≤ gb150)); have n5_ := Aside0.mk ((by rw [hg]; exact (below_size (by repeat (first | (with_reducible first | exact HB.out | apply below_alloc | apply pw_below_drewN | apply below_drew1 | refine below_set ?_ GE139.out | refine below_set ?_ GE145.out) | exact HB.out))) : w.heap.size ≤ gb150)); have n6_ := Aside0.mk ((by rw [hg]; exact Nat.ne_of_lt (blk_lt (g := gb139) (o := .cells #[.int .i64 t135, .int .i64 t136, .int .i64 t137, .int .i64 t138] 23 (0, 0)) (by (with_reducible repeat (first | refine blk_drewN ?_ _ | refine blk_drew ?_ | refine blk_alloc ?_ _)); exact BK139.out)) : gb139 ≠ gb150)); have n7_ := Aside0.mk ((by rw [hg]; exact Nat.ne_of_gt (blk_lt (g := gb139) (o := .cells #[.int .i64 t135, .int .i64 t136, .int .i64 t137, .int .i64 t138] 23 (0, 0)) (by (with_reducible repeat (first | refine blk_drewN ?_ _ | refine blk_drew ?_ | refine blk_alloc ?_ _)); exact BK139.out)) : gb150 ≠ gb139)); have n8_ := Aside0.mk ((by rw [hg]; exact Nat.ne_of_lt (blk_lt (g := gb145) (o := .cells #[.int .i64 t140, .int .i64 t141, .int .i64 t142, .int .i64 t143] 25 (0, 0)) (by (with_reducible repeat (first | refine blk_drewN ?_ _ | refine blk_drew ?_ | refine blk_alloc ?_ _)); exact BK145.out)) : gb145 ≠ gb150)); have n9_ := Aside0.mk ((by rw [hg]; exact Nat.ne_of_gt (blk_lt (g := gb145) (o := .cells #[.int .i64 t140, .int .i64 t141, .int .i64 t142, .int .i64 t143] 25 (0, 0)) (by (with_reducible repeat (first | refine blk_drewN ?_ _ | refine blk_drew ?_ | refine blk_alloc ?_ _)); exact BK145.out)) : gb150 ≠ gb145)); clear BK139; clear BK145; clear HB; have BK139 := n0_; have BK145 := n1_; have HB := n2_; have BK150 := n3_; have GW150 := n4_; have GE150 := n5_; have NB139_150 := n6_; have NB150_139 := n7_; have NB145_150 := n8_; have NB150_145 := n9_; clear n0_ n1_ n2_ n3_ n4_ n5_ n6_ n7_ n8_ n9_; clear hb hbox hg; have hnb36 := NB150_139.out; have hnc36 := NB139_150.out; have hnb37 := NB150_145.out; have hnc37 := NB145_150.out; have hcz38_0 : w35.cell? ⟨gb150, 0, none⟩ = some (.int .i64 0) := (blk_cell BK150.out 0).trans rfl; have hcz38_1 : w35.cell? ⟨gb150, 1, none⟩ = some (.int .i64 0) := (blk_cell BK150.out 1).trans rfl; have hcz38_2 : w35.cell? ⟨gb150, 2, none⟩ = some (.int .i64 0) := (blk_cell BK150.out 2).trans rfl; have hcz38_3 : w35.cell? ⟨gb150, 3, none⟩ = some (.int .i64 0) := (blk_cell BK150.out 3).trans rfl; have hfz38_0 := blk_frozen BK150.out 0; have hfz38_1 := blk_frozen BK150.out 1; have hfz38_2 := blk_frozen BK150.out 2; have hfz38_3 := blk_frozen BK150.out 3))
           have n0_ : Aside0 (((((w35.setCell ⟨gb150, 0, none⟩ (.int .i64 t146)).setCell ⟨gb150, 1, none⟩ (.int .i64 t147)).setCell ⟨gb150, 2, none⟩ (.int .i64 t148)).setCell ⟨gb150, 3, none⟩ (.int .i64 t149)).heap[gb139]? = some (.cells #[.int .i64 t135, .int .i64 t136, .int .i64 t137, .int .i64 t138] 23 (0, 0))) := ⟨by (with_reducible repeat (first | refine blk_drewN ?_ _ | refine blk_drew ?_ | refine blk_alloc ?_ _)); refine blk_far ?_ NB139_150.out _; (with_reducible repeat (first | refine blk_drewN ?_ _ | refine blk_drew ?_ | refine blk_alloc ?_ _)); refine blk_far ?_ NB139_150.out _; (with_reducible repeat (first | refine blk_drewN ?_ _ | refine blk_drew ?_ | refine blk_alloc ?_ _)); refine blk_far ?_ NB139_150.out _; (with_reducible repeat (first | refine blk_drewN ?_ _ | refine blk_drew ?_ | refine blk_alloc ?_ _)); refine blk_far ?_ NB139_150.out _; (with_reducible repeat (first | refine blk_drewN ?_ _ | refine blk_drew ?_ | refine blk_alloc ?_ _)); exact BK139.out⟩
           have n1_ : Aside0 (((((w35.setCell ⟨gb150, 0, none⟩ (.int .i64 t146)).setCell ⟨gb150, 1, none⟩ (.int .i64 t147)).setCell ⟨gb150, 2, none⟩ (.int .i64 t148)).setCell ⟨gb150, 3, none⟩ (.int .i64 t149)).heap[gb145]? = some (.cells #[.int .i64 t140, .int .i64 t141, .int .i64 t142, .int .i64 t143] 25 (0, 0))) := ⟨by (with_reducible repeat (first | refine blk_drewN ?_ _ | refine blk_drew ?_ | refine blk_alloc ?_ _)); refine blk_far ?_ NB145_150.out _; (with_reducible repeat (first | refine blk_drewN ?_ _ | refine blk_drew ?_ | refine blk_alloc ?_ _)); refine blk_far ?_ NB145_150.out _; (with_reducible repeat (first | refine blk_drewN ?_ _ | refine blk_drew ?_ | refine blk_alloc ?_ _)); refine blk_far ?_ NB145_150.out _; (with_reducible repeat (first | refine blk_drewN ?_ _ | refine blk_drew ?_ | refine blk_alloc ?_ _)); refine blk_far ?_ NB145_150.out _; (with_reducible repeat (first | refine blk_drewN ?_ _ | refine blk_drew ?_ | refine blk_alloc ?_ _)); exact BK145.out⟩
           have n2_ : Aside0 (((((w35.setCell ⟨gb150, 0, none⟩ (.int .i64 t146)).setCell ⟨gb150, 1, none⟩ (.int .i64 t147)).setCell ⟨gb150, 2, none⟩ (.int .i64 t148)).setCell ⟨gb150, 3, none⟩ (.int .i64 t149)).heap[gb150]? = some (.cells #[.int .i64 t146, .int .i64 t147, .int .i64 t148, .int .i64 t149] 25 (0, 0))) := ⟨by (with_reducible repeat (first | refine blk_drewN ?_ _ | refine blk_drew ?_ | refine blk_alloc ?_ _)); refine blk_put (cs := #[.int .i64 t146, .int .i64 t147, .int .i64 t148, .int .i64 0]) ?_ 3 _ rfl; (with_reducible repeat (first | refine blk_drewN ?_ _ | refine blk_drew ?_ | refine blk_alloc ?_ _)); refine blk_put (cs := #[.int .i64 t146, .int .i64 t147, .int .i64 0, .int .i64 0]) ?_ 2 _ rfl; (with_reducible repeat (first | refine blk_drewN ?_ _ | refine blk_drew ?_ | refine blk_alloc ?_ _)); refine blk_put (cs := #[.int .i64 t146, .int .i64 0, .int .i64 0, .int .i64 0]) ?_ 1 _ rfl; (with_reducible repeat (first | refine blk_drewN ?_ _ | refine blk_drew ?_ | refine blk_alloc ?_ _)); refine blk_put (cs := #[.int .i64 0, .int .i64 0, .int .i64 0, .int .i64 0]) ?_ 0 _ rfl; (with_reducible repeat (first | refine blk_drewN ?_ _ | refine blk_drew ?_ | refine blk_alloc ?_ _)); exact BK150.out⟩
           have n3_ : Aside0 (Below w.heap.size w ((((w35.setCell ⟨gb150, 0, none⟩ (.int .i64 t146)).setCell ⟨gb150, 1, none⟩ (.int .i64 t147)).setCell ⟨gb150, 2, none⟩ (.int .i64 t148)).setCell ⟨gb150, 3, none⟩ (.int .i64 t149))) := ⟨by repeat (first | (with_reducible first | exact HB.out | apply below_alloc | apply pw_below_drewN | apply below_drew1 | refine below_set ?_ GE139.out | refine below_set ?_ GE145.out | refine below_set ?_ GE150.out) | exact HB.out)⟩
           (try clear BK139)
           (try clear BK145)
           (try clear BK150)
           (try clear HB)
           generalize ((((w35.setCell ⟨gb150, 0, none⟩ (.int .i64 t146)).setCell ⟨gb150, 1, none⟩ (.int .i64 t147)).setCell ⟨gb150, 2, none⟩ (.int .i64 t148)).setCell ⟨gb150, 3, none⟩ (.int .i64 t149)) = w39 at n0_ n1_ n2_ n3_ ⊢
           have BK139 := n0_
           have BK145 := n1_
           have BK150 := n2_
           have HB := n3_
           clear n0_ n1_ n2_ n3_
           have n0_ := Aside0.mk (blk_drew BK139.out)
           have n1_ := Aside0.mk (blk_drew BK145.out)
           have n2_ := Aside0.mk (blk_drew BK150.out)
           have n3_ := Aside0.mk (below_drew1 HB.out)
           clear BK139
           clear BK145
           clear BK150
           clear HB
           have BK139 := n0_
           have BK145 := n1_
           have BK150 := n2_
           have HB := n3_
           clear n0_ n1_ n2_ n3_
           refine start_ (n := 7) (S := fun w' => w'.cell? ⟨gb139, 0, none⟩ = some (.int .i64 t135) ∧ w'.cell? ⟨gb139, 1, none⟩ = some (.int .i64 t136) ∧ w'.cell? ⟨gb139, 2, none⟩ = some (.int .i64 t137) ∧ w'.cell? ⟨gb139, 3, none⟩ = some (.int .i64 t138) ∧ w'.cell? ⟨gb150, 0, none⟩ = some (.int .i64 t146) ∧ w'.cell? ⟨gb150, 1, none⟩ = some (.int .i64 t147) ∧ w'.cell? ⟨gb150, 2, none⟩ = some (.int .i64 t148) ∧ w'.cell? ⟨gb150, 3, none⟩ = some (.int .i64 t149)) (ds := []) #[false, false, false, false, false, false, false] (by kernel_rfl) rfl rfl ⟨(blk_cell BK139.out 0).trans rfl, (blk_cell BK139.out 1).trans rfl, (blk_cell BK139.out 2).trans rfl, (blk_cell BK139.out 3).trans rfl, (blk_cell BK150.out 0).trans rfl, (blk_cell BK150.out 1).trans rfl, (blk_cell BK150.out 2).trans rfl, (blk_cell BK150.out 3).trans rfl⟩ (fun hHeld => ?_)
           generalize w39.drew = w40 at BK139 BK145 BK150 HB hHeld ⊢
           refine take_ (i := 0) (N := some 22) (v := ?_) (a' := ?_) #[true, false, false, false, false, false, false] rfl rfl (by kernel_rfl) (fun _ _ _ h => h) (Or.inl ⟨by rfl, ?_⟩) hHeld ?_ ?_
           rotate_left
           ·rintro w' ⟨s0, s1, s2, s3, s4, s5, s6, s7⟩
            go_simp
            with_reducible rfl
           rotate_left
           ·simp only [Act.put, List.setIfInBounds_toArray, List.set_cons_zero, List.set_cons_succ, i64_w, i32_w]
            rfl
           refine take_ (i := 1) (N := some 23) (v := ?_) (a' := ?_) #[true, true, false, false, false, false, false] rfl rfl (by kernel_rfl) (fun _ _ _ h => h) (Or.inl ⟨by rfl, ?_⟩) hHeld ?_ ?_
           rotate_left
           ·rintro w' ⟨s0, s1, s2, s3, s4, s5, s6, s7⟩
            go_simp
            with_reducible rfl
           rotate_left
           ·simp only [Act.put, List.setIfInBounds_toArray, List.set_cons_zero, List.set_cons_succ, i64_w, i32_w]
            rfl
           refine take_ (i := 2) (N := some 24) (v := ?_) (a' := ?_) #[true, true, true, false, false, false, false] rfl rfl (by kernel_rfl) (fun _ _ _ h => h) (Or.inl ⟨by rfl, ?_⟩) hHeld ?_ ?_
           rotate_left
           ·rintro w' ⟨s0, s1, s2, s3, s4, s5, s6, s7⟩
            go_simp
            with_reducible rfl
           rotate_left
           ·simp only [Act.put, List.setIfInBounds_toArray, List.set_cons_zero, List.set_cons_succ, i64_w, i32_w]
            rfl
           refine join_ (σ := Nat) 1 #[true, true, true, true, true, true, false] (fun s_ => [(25, .agg #[.int .i64 t151, .int .i64 t152, .int .i64 t153, .int .i64 t154]), (26, .agg #[.int .i64 t155, .int .i64 t156, .int .i64 t157, .int .i64 t158]), (5, .pointer (some ⟨s_, 0, none⟩))]) (fun s_ w' => (w'.cell? ⟨gb139, 0, none⟩ = some (.int .i64 t135) ∧ w'.cell? ⟨gb139, 1, none⟩ = some (.int .i64 t136) ∧ w'.cell? ⟨gb139, 2, none⟩ = some (.int .i64 t137) ∧ w'.cell? ⟨gb139, 3, none⟩ = some (.int .i64 t138) ∧ w'.cell? ⟨gb150, 0, none⟩ = some (.int .i64 t146) ∧ w'.cell? ⟨gb150, 1, none⟩ = some (.int .i64 t147) ∧ w'.cell? ⟨gb150, 2, none⟩ = some (.int .i64 t148) ∧ w'.cell? ⟨gb150, 3, none⟩ = some (.int .i64 t149)) ∧ (w'.heap[gb139]? = some (.cells #[.int .i64 t135, .int .i64 t136, .int .i64 t137, .int .i64 t138] 23 (0, 0))) ∧ (w'.heap[gb145]? = some (.cells #[.int .i64 t140, .int .i64 t141, .int .i64 t142, .int .i64 t143] 25 (0, 0))) ∧ (w'.heap[gb150]? = some (.cells #[.int .i64 t146, .int .i64 t147, .int .i64 t148, .int .i64 t149] 25 (0, 0))) ∧ (w'.heap[s_]? = some (.cells #[.int .i64 0, .int .i64 0, .int .i64 0, .int .i64 0] 25 (0, 0))) ∧ (w.heap.size ≤ s_) ∧ (w.heap.size ≤ s_) ∧ (gb139 ≠ s_) ∧ (s_ ≠ gb139) ∧ (gb145 ≠ s_) ∧ (s_ ≠ gb145) ∧ (gb150 ≠ s_) ∧ (s_ ≠ gb150) ∧ (Below w.heap.size w w')) ?_ ?_
           rotate_left
           ·intro hCont
            refine two_ (i := 3) (j := 5) (Ni := some 25) (Nj := some 5) #[true, true, true, true, false, false, false] #[true, true, true, false, false, true, false] rfl rfl rfl rfl (by kernel_rfl) (by decide) (by decide) (fun K hK => ?_) (fun K hK => ?_)
            ·skip
             refine goes_ Try.func20 (by kernel_rfl) rfl #[.agg #[.int .i64 t135, .int .i64 t136, .int .i64 t137, .int .i64 t138], .agg #[.int .i64 t146, .int .i64 t147, .int .i64 t148, .int .i64 t149]] (by rfl) rfl rfl (by (try simp only [List.map_toArray, List.map_cons, List.map_nil]); first | done | rfl | (simp only [List.length_drop, List.length_take]; rfl)) ?_
             with_reducible refine (drive_Halt.calls t135 t136 t137 t138 t146 t147 t148 t149 t151 t152 t153 t154 _ A4.out).mono ?_
             rintro e w41 ⟨rfl, hb⟩
             refine ⟨_, rfl, ?_⟩
             have n0_ := Aside0.mk (bb_ BK139.out hb)
             have n1_ := Aside0.mk (bb_ BK145.out hb)
             have n2_ := Aside0.mk (bb_ BK150.out hb)
             have n3_ := Aside0.mk (below_step (by repeat (first | (with_reducible first | exact HB.out | apply below_alloc | apply pw_below_drewN | apply below_drew1 | refine below_set ?_ GE139.out | refine below_set ?_ GE145.out | refine below_set ?_ GE150.out) | exact HB.out)) hb)
             clear BK139
             clear BK145
             clear BK150
             clear HB
             have BK139 := n0_
             have BK145 := n1_
             have BK150 := n2_
             have HB := n3_
             clear n0_ n1_ n2_ n3_
             (try clear hb)
             (try clear hb2)
             (try clear hk)
             (try clear hi)
             refine hK.out _ _ ⟨(blk_cell BK139.out 0).trans rfl, (blk_cell BK139.out 1).trans rfl, (blk_cell BK139.out 2).trans rfl, (blk_cell BK139.out 3).trans rfl, (blk_cell BK150.out 0).trans rfl, (blk_cell BK150.out 1).trans rfl, (blk_cell BK150.out 2).trans rfl, (blk_cell BK150.out 3).trans rfl⟩ (fun hHeld => ?_)
             clear hK K
             refine norm_ (a' := ?_) ?_ ?_
             rotate_left
             ·show Act.put _ (some 25) _ = _
              simp only [Act.put, List.setIfInBounds_toArray, List.set_cons_zero, List.set_cons_succ, i64_w, i32_w]
              rfl
             refine two_ (i := 4) (j := 5) (Ni := some 26) (Nj := some 5) #[true, true, true, true, true, false, false] #[true, true, true, true, false, true, false] rfl rfl rfl rfl (by kernel_rfl) (by decide) (by decide) (fun K hK => ?_) (fun K hK => ?_)
             ·skip
              refine goes_ Try.func24 (by kernel_rfl) rfl #[.agg #[.int .i64 t135, .int .i64 t136, .int .i64 t137, .int .i64 t138], .agg #[.int .i64 t151, .int .i64 t152, .int .i64 t153, .int .i64 t154], .int .i64 2] (by rfl) rfl rfl (by (try simp only [List.map_toArray, List.map_cons, List.map_nil]); first | done | rfl | (simp only [List.length_drop, List.length_take]; rfl)) ?_
              with_reducible refine (drive_Step.calls k t135 t136 t137 t138 t151 t152 t153 t154 2 t155 t156 t157 t158 _ A5.out).mono ?_
              rintro e w42 ⟨rfl, hb⟩
              refine ⟨_, rfl, ?_⟩
              have n0_ := Aside0.mk (bb_ BK139.out hb)
              have n1_ := Aside0.mk (bb_ BK145.out hb)
              have n2_ := Aside0.mk (bb_ BK150.out hb)
              have n3_ := Aside0.mk (below_step (by repeat (first | (with_reducible first | exact HB.out | apply below_alloc | apply pw_below_drewN | apply below_drew1 | refine below_set ?_ GE139.out | refine below_set ?_ GE145.out | refine below_set ?_ GE150.out) | exact HB.out)) hb)
              clear BK139
              clear BK145
              clear BK150
              clear HB
              have BK139 := n0_
              have BK145 := n1_
              have BK150 := n2_
              have HB := n3_
              clear n0_ n1_ n2_ n3_
              (try clear hb)
              (try clear hb2)
              (try clear hk)
              (try clear hi)
              refine hK.out _ _ ⟨(blk_cell BK139.out 0).trans rfl, (blk_cell BK139.out 1).trans rfl, (blk_cell BK139.out 2).trans rfl, (blk_cell BK139.out 3).trans rfl, (blk_cell BK150.out 0).trans rfl, (blk_cell BK150.out 1).trans rfl, (blk_cell BK150.out 2).trans rfl, (blk_cell BK150.out 3).trans rfl⟩ (fun hHeld => ?_)
              clear hK K
              refine norm_ (a' := ?_) ?_ ?_
              rotate_left
              ·show Act.put _ (some 26) _ = _
               simp only [Act.put, List.setIfInBounds_toArray, List.set_cons_zero, List.set_cons_succ, i64_w, i32_w]
               rfl
              refine one_ (i := 5) (N := some 5) #[true, true, true, true, true, true, false] rfl rfl (by kernel_rfl) (by decide) (fun K hK => ?_)
              refine box_step ?hg (N := 5) ?hd (cs := #[.int .i64 0, .int .i64 0, .int .i64 0, .int .i64 0]) (t := 25) ?hr ?_; (case hd => rfl); (case hg => rfl); (case hr => first | (go_simp; done) | (go_simp; rfl))
              intro gb159 hg w43 hbox hb
              have n0_ := Aside0.mk (bb_ BK139.out hb)
              have n1_ := Aside0.mk (bb_ BK145.out hb)
              have n2_ := Aside0.mk (bb_ BK150.out hb)
              have n3_ := Aside0.mk (below_step (by repeat (first | (with_reducible first | exact HB.out | apply below_alloc | apply pw_below_drewN | apply below_drew1 | refine below_set ?_ GE139.out | refine below_set ?_ GE145.out | refine below_set ?_ GE150.out) | exact HB.out)) hb)
              have n4_ := Aside0.mk (hbox)
              have n5_ := Aside0.mk ((by rw [hg]; exact (below_size (by repeat (first | (with_reducible first | exact HB.out | apply below_alloc | apply pw_below_drewN | apply below_drew1 | refine below_set ?_ GE139.out | refine below_set ?_ GE145.out | refine below_set ?_ GE150.out) | exact HB.out))) : w.heap.size ≤ gb159))
              have n6_ := Aside0.mk ((by rw [hg]; exact (below_size (by repeat (first | (with_reducible first | exact HB.out | apply below_alloc | apply pw_below_drewN | apply below_drew1 | refine below_set ?_ GE139.out | refine below_set ?_ GE145.out | refine below_set ?_ GE150.out) | exact HB.out))) : w.heap.size ≤ gb159))
              have n7_ := Aside0.mk ((by rw [hg]; exact Nat.ne_of_lt (blk_lt (g := gb139) (o := .cells #[.int .i64 t135, .int .i64 t136, .int .i64 t137, .int .i64 t138] 23 (0, 0)) (by (with_reducible repeat (first | refine blk_drewN ?_ _ | refine blk_drew ?_ | refine blk_alloc ?_ _)); exact BK139.out)) : gb139 ≠ gb159))
              have n8_ := Aside0.mk ((by rw [hg]; exact Nat.ne_of_gt (blk_lt (g := gb139) (o := .cells #[.int .i64 t135, .int .i64 t136, .int .i64 t137, .int .i64 t138] 23 (0, 0)) (by (with_reducible repeat (first | refine blk_drewN ?_ _ | refine blk_drew ?_ | refine blk_alloc ?_ _)); exact BK139.out)) : gb159 ≠ gb139))
              have n9_ := Aside0.mk ((by rw [hg]; exact Nat.ne_of_lt (blk_lt (g := gb145) (o := .cells #[.int .i64 t140, .int .i64 t141, .int .i64 t142, .int .i64 t143] 25 (0, 0)) (by (with_reducible repeat (first | refine blk_drewN ?_ _ | refine blk_drew ?_ | refine blk_alloc ?_ _)); exact BK145.out)) : gb145 ≠ gb159))
              have n10_ := Aside0.mk ((by rw [hg]; exact Nat.ne_of_gt (blk_lt (g := gb145) (o := .cells #[.int .i64 t140, .int .i64 t141, .int .i64 t142, .int .i64 t143] 25 (0, 0)) (by (with_reducible repeat (first | refine blk_drewN ?_ _ | refine blk_drew ?_ | refine blk_alloc ?_ _)); exact BK145.out)) : gb159 ≠ gb145))
              have n11_ := Aside0.mk ((by rw [hg]; exact Nat.ne_of_lt (blk_lt (g := gb150) (o := .cells #[.int .i64 t146, .int .i64 t147, .int .i64 t148, .int .i64 t149] 25 (0, 0)) (by (with_reducible repeat (first | refine blk_drewN ?_ _ | refine blk_drew ?_ | refine blk_alloc ?_ _)); exact BK150.out)) : gb150 ≠ gb159))
              have n12_ := Aside0.mk ((by rw [hg]; exact Nat.ne_of_gt (blk_lt (g := gb150) (o := .cells #[.int .i64 t146, .int .i64 t147, .int .i64 t148, .int .i64 t149] 25 (0, 0)) (by (with_reducible repeat (first | refine blk_drewN ?_ _ | refine blk_drew ?_ | refine blk_alloc ?_ _)); exact BK150.out)) : gb159 ≠ gb150))
              clear BK139
              clear BK145
              clear BK150
              clear HB
              have BK139 := n0_
              have BK145 := n1_
              have BK150 := n2_
              have HB := n3_
              have BK159 := n4_
              have GW159 := n5_
              have GE159 := n6_
              have NB139_159 := n7_
              have NB159_139 := n8_
              have NB145_159 := n9_
              have NB159_145 := n10_
              have NB150_159 := n11_
              have NB159_150 := n12_
              clear n0_ n1_ n2_ n3_ n4_ n5_ n6_ n7_ n8_ n9_ n10_ n11_ n12_
              clear hb hbox hg
              refine hK.out _ _ ⟨(blk_cell BK139.out 0).trans rfl, (blk_cell BK139.out 1).trans rfl, (blk_cell BK139.out 2).trans rfl, (blk_cell BK139.out 3).trans rfl, (blk_cell BK150.out 0).trans rfl, (blk_cell BK150.out 1).trans rfl, (blk_cell BK150.out 2).trans rfl, (blk_cell BK150.out 3).trans rfl⟩ (fun hHeld => ?_)
              clear hK K
              refine norm_ (a' := ?_) ?_ ?_
              rotate_left
              ·show Act.put _ (some 5) _ = _
               simp only [Act.put, List.setIfInBounds_toArray, List.set_cons_zero, List.set_cons_succ, i64_w, i32_w]
               rfl
              exact norm_ (by simp only [putAll, Act.put, List.setIfInBounds_toArray, List.set_cons_zero, List.set_cons_succ]) (hCont (gb159) _ ⟨hHeld, (by (with_reducible repeat (first | refine blk_drewN ?_ _ | refine blk_drew ?_ | refine blk_alloc ?_ _)); exact BK139.out), (by (with_reducible repeat (first | refine blk_drewN ?_ _ | refine blk_drew ?_ | refine blk_alloc ?_ _)); exact BK145.out), (by (with_reducible repeat (first | refine blk_drewN ?_ _ | refine blk_drew ?_ | refine blk_alloc ?_ _)); exact BK150.out), (by (with_reducible repeat (first | refine blk_drewN ?_ _ | refine blk_drew ?_ | refine blk_alloc ?_ _)); exact BK159.out), GW159.out, GE159.out, NB139_159.out, NB159_139.out, NB145_159.out, NB159_145.out, NB150_159.out, NB159_150.out, (by repeat (first | (with_reducible first | exact HB.out | apply below_alloc | apply pw_below_drewN | apply below_drew1 | refine below_set ?_ GE139.out | refine below_set ?_ GE145.out | refine below_set ?_ GE150.out | refine below_set ?_ GE159.out) | exact HB.out))⟩)
             ·skip
              refine box_step ?hg (N := 5) ?hd (cs := #[.int .i64 0, .int .i64 0, .int .i64 0, .int .i64 0]) (t := 25) ?hr ?_; (case hd => rfl); (case hg => rfl); (case hr => first | (go_simp; done) | (go_simp; rfl))
              intro gb159 hg w42 hbox hb
              have n0_ := Aside0.mk (bb_ BK139.out hb)
              have n1_ := Aside0.mk (bb_ BK145.out hb)
              have n2_ := Aside0.mk (bb_ BK150.out hb)
              have n3_ := Aside0.mk (below_step (by repeat (first | (with_reducible first | exact HB.out | apply below_alloc | apply pw_below_drewN | apply below_drew1 | refine below_set ?_ GE139.out | refine below_set ?_ GE145.out | refine below_set ?_ GE150.out) | exact HB.out)) hb)
              have n4_ := Aside0.mk (hbox)
              have n5_ := Aside0.mk ((by rw [hg]; exact (below_size (by repeat (first | (with_reducible first | exact HB.out | apply below_alloc | apply pw_below_drewN | apply below_drew1 | refine below_set ?_ GE139.out | refine below_set ?_ GE145.out | refine below_set ?_ GE150.out) | exact HB.out))) : w.heap.size ≤ gb159))
              have n6_ := Aside0.mk ((by rw [hg]; exact (below_size (by repeat (first | (with_reducible first | exact HB.out | apply below_alloc | apply pw_below_drewN | apply below_drew1 | refine below_set ?_ GE139.out | refine below_set ?_ GE145.out | refine below_set ?_ GE150.out) | exact HB.out))) : w.heap.size ≤ gb159))
              have n7_ := Aside0.mk ((by rw [hg]; exact Nat.ne_of_lt (blk_lt (g := gb139) (o := .cells #[.int .i64 t135, .int .i64 t136, .int .i64 t137, .int .i64 t138] 23 (0, 0)) (by (with_reducible repeat (first | refine blk_drewN ?_ _ | refine blk_drew ?_ | refine blk_alloc ?_ _)); exact BK139.out)) : gb139 ≠ gb159))
              have n8_ := Aside0.mk ((by rw [hg]; exact Nat.ne_of_gt (blk_lt (g := gb139) (o := .cells #[.int .i64 t135, .int .i64 t136, .int .i64 t137, .int .i64 t138] 23 (0, 0)) (by (with_reducible repeat (first | refine blk_drewN ?_ _ | refine blk_drew ?_ | refine blk_alloc ?_ _)); exact BK139.out)) : gb159 ≠ gb139))
              have n9_ := Aside0.mk ((by rw [hg]; exact Nat.ne_of_lt (blk_lt (g := gb145) (o := .cells #[.int .i64 t140, .int .i64 t141, .int .i64 t142, .int .i64 t143] 25 (0, 0)) (by (with_reducible repeat (first | refine blk_drewN ?_ _ | refine blk_drew ?_ | refine blk_alloc ?_ _)); exact BK145.out)) : gb145 ≠ gb159))
              have n10_ := Aside0.mk ((by rw [hg]; exact Nat.ne_of_gt (blk_lt (g := gb145) (o := .cells #[.int .i64 t140, .int .i64 t141, .int .i64 t142, .int .i64 t143] 25 (0, 0)) (by (with_reducible repeat (first | refine blk_drewN ?_ _ | refine blk_drew ?_ | refine blk_alloc ?_ _)); exact BK145.out)) : gb159 ≠ gb145))
              have n11_ := Aside0.mk ((by rw [hg]; exact Nat.ne_of_lt (blk_lt (g := gb150) (o := .cells #[.int .i64 t146, .int .i64 t147, .int .i64 t148, .int .i64 t149] 25 (0, 0)) (by (with_reducible repeat (first | refine blk_drewN ?_ _ | refine blk_drew ?_ | refine blk_alloc ?_ _)); exact BK150.out)) : gb150 ≠ gb159))
              have n12_ := Aside0.mk ((by rw [hg]; exact Nat.ne_of_gt (blk_lt (g := gb150) (o := .cells #[.int .i64 t146, .int .i64 t147, .int .i64 t148, .int .i64 t149] 25 (0, 0)) (by (with_reducible repeat (first | refine blk_drewN ?_ _ | refine blk_drew ?_ | refine blk_alloc ?_ _)); exact BK150.out)) : gb159 ≠ gb150))
              clear BK139
              clear BK145
              clear BK150
              clear HB
              have BK139 := n0_
              have BK145 := n1_
              have BK150 := n2_
              have HB := n3_
              have BK159 := n4_
              have GW159 := n5_
              have GE159 := n6_
              have NB139_159 := n7_
              have NB159_139 := n8_
              have NB145_159 := n9_
              have NB159_145 := n10_
              have NB150_159 := n11_
              have NB159_150 := n12_
              clear n0_ n1_ n2_ n3_ n4_ n5_ n6_ n7_ n8_ n9_ n10_ n11_ n12_
              clear hb hbox hg
              refine hK.out _ _ ⟨(blk_cell BK139.out 0).trans rfl, (blk_cell BK139.out 1).trans rfl, (blk_cell BK139.out 2).trans rfl, (blk_cell BK139.out 3).trans rfl, (blk_cell BK150.out 0).trans rfl, (blk_cell BK150.out 1).trans rfl, (blk_cell BK150.out 2).trans rfl, (blk_cell BK150.out 3).trans rfl⟩ (fun hHeld => ?_)
              clear hK K
              refine norm_ (a' := ?_) ?_ ?_
              rotate_left
              ·show Act.put _ (some 5) _ = _
               simp only [Act.put, List.setIfInBounds_toArray, List.set_cons_zero, List.set_cons_succ, i64_w, i32_w]
               rfl
              refine one_ (i := 4) (N := some 26) #[true, true, true, true, true, true, false] rfl rfl (by kernel_rfl) (by decide) (fun K hK => ?_)
              refine goes_ Try.func24 (by kernel_rfl) rfl #[.agg #[.int .i64 t135, .int .i64 t136, .int .i64 t137, .int .i64 t138], .agg #[.int .i64 t151, .int .i64 t152, .int .i64 t153, .int .i64 t154], .int .i64 2] (by rfl) rfl rfl (by (try simp only [List.map_toArray, List.map_cons, List.map_nil]); first | done | rfl | (simp only [List.length_drop, List.length_take]; rfl)) ?_
              with_reducible refine (drive_Step.calls k t135 t136 t137 t138 t151 t152 t153 t154 2 t155 t156 t157 t158 _ A5.out).mono ?_
              rintro e w43 ⟨rfl, hb⟩
              refine ⟨_, rfl, ?_⟩
              have n0_ := Aside0.mk (bb_ BK139.out hb)
              have n1_ := Aside0.mk (bb_ BK145.out hb)
              have n2_ := Aside0.mk (bb_ BK150.out hb)
              have n3_ := Aside0.mk (bb_ BK159.out hb)
              have n4_ := Aside0.mk (below_step (by repeat (first | (with_reducible first | exact HB.out | apply below_alloc | apply pw_below_drewN | apply below_drew1 | refine below_set ?_ GE139.out | refine below_set ?_ GE145.out | refine below_set ?_ GE150.out | refine below_set ?_ GE159.out) | exact HB.out)) hb)
              clear BK139
              clear BK145
              clear BK150
              clear BK159
              clear HB
              have BK139 := n0_
              have BK145 := n1_
              have BK150 := n2_
              have BK159 := n3_
              have HB := n4_
              clear n0_ n1_ n2_ n3_ n4_
              (try clear hb)
              (try clear hb2)
              (try clear hk)
              (try clear hi)
              refine hK.out _ _ ⟨(blk_cell BK139.out 0).trans rfl, (blk_cell BK139.out 1).trans rfl, (blk_cell BK139.out 2).trans rfl, (blk_cell BK139.out 3).trans rfl, (blk_cell BK150.out 0).trans rfl, (blk_cell BK150.out 1).trans rfl, (blk_cell BK150.out 2).trans rfl, (blk_cell BK150.out 3).trans rfl⟩ (fun hHeld => ?_)
              clear hK K
              refine norm_ (a' := ?_) ?_ ?_
              rotate_left
              ·show Act.put _ (some 26) _ = _
               simp only [Act.put, List.setIfInBounds_toArray, List.set_cons_zero, List.set_cons_succ, i64_w, i32_w]
               rfl
              exact norm_ (by simp only [putAll, Act.put, List.setIfInBounds_toArray, List.set_cons_zero, List.set_cons_succ]) (hCont (gb159) _ ⟨hHeld, (by (with_reducible repeat (first | refine blk_drewN ?_ _ | refine blk_drew ?_ | refine blk_alloc ?_ _)); exact BK139.out), (by (with_reducible repeat (first | refine blk_drewN ?_ _ | refine blk_drew ?_ | refine blk_alloc ?_ _)); exact BK145.out), (by (with_reducible repeat (first | refine blk_drewN ?_ _ | refine blk_drew ?_ | refine blk_alloc ?_ _)); exact BK150.out), (by (with_reducible repeat (first | refine blk_drewN ?_ _ | refine blk_drew ?_ | refine blk_alloc ?_ _)); exact BK159.out), GW159.out, GE159.out, NB139_159.out, NB159_139.out, NB145_159.out, NB159_145.out, NB150_159.out, NB159_150.out, (by repeat (first | (with_reducible first | exact HB.out | apply below_alloc | apply pw_below_drewN | apply below_drew1 | refine below_set ?_ GE139.out | refine below_set ?_ GE145.out | refine below_set ?_ GE150.out | refine below_set ?_ GE159.out) | exact HB.out))⟩)
            ·skip
             refine box_step ?hg (N := 5) ?hd (cs := #[.int .i64 0, .int .i64 0, .int .i64 0, .int .i64 0]) (t := 25) ?hr ?_; (case hd => rfl); (case hg => rfl); (case hr => first | (go_simp; done) | (go_simp; rfl))
             intro gb159 hg w41 hbox hb
             have n0_ := Aside0.mk (bb_ BK139.out hb)
             have n1_ := Aside0.mk (bb_ BK145.out hb)
             have n2_ := Aside0.mk (bb_ BK150.out hb)
             have n3_ := Aside0.mk (below_step (by repeat (first | (with_reducible first | exact HB.out | apply below_alloc | apply pw_below_drewN | apply below_drew1 | refine below_set ?_ GE139.out | refine below_set ?_ GE145.out | refine below_set ?_ GE150.out) | exact HB.out)) hb)
             have n4_ := Aside0.mk (hbox)
             have n5_ := Aside0.mk ((by rw [hg]; exact (below_size (by repeat (first | (with_reducible first | exact HB.out | apply below_alloc | apply pw_below_drewN | apply below_drew1 | refine below_set ?_ GE139.out | refine below_set ?_ GE145.out | refine below_set ?_ GE150.out) | exact HB.out))) : w.heap.size ≤ gb159))
             have n6_ := Aside0.mk ((by rw [hg]; exact (below_size (by repeat (first | (with_reducible first | exact HB.out | apply below_alloc | apply pw_below_drewN | apply below_drew1 | refine below_set ?_ GE139.out | refine below_set ?_ GE145.out | refine below_set ?_ GE150.out) | exact HB.out))) : w.heap.size ≤ gb159))
             have n7_ := Aside0.mk ((by rw [hg]; exact Nat.ne_of_lt (blk_lt (g := gb139) (o := .cells #[.int .i64 t135, .int .i64 t136, .int .i64 t137, .int .i64 t138] 23 (0, 0)) (by (with_reducible repeat (first | refine blk_drewN ?_ _ | refine blk_drew ?_ | refine blk_alloc ?_ _)); exact BK139.out)) : gb139 ≠ gb159))
             have n8_ := Aside0.mk ((by rw [hg]; exact Nat.ne_of_gt (blk_lt (g := gb139) (o := .cells #[.int .i64 t135, .int .i64 t136, .int .i64 t137, .int .i64 t138] 23 (0, 0)) (by (with_reducible repeat (first | refine blk_drewN ?_ _ | refine blk_drew ?_ | refine blk_alloc ?_ _)); exact BK139.out)) : gb159 ≠ gb139))
             have n9_ := Aside0.mk ((by rw [hg]; exact Nat.ne_of_lt (blk_lt (g := gb145) (o := .cells #[.int .i64 t140, .int .i64 t141, .int .i64 t142, .int .i64 t143] 25 (0, 0)) (by (with_reducible repeat (first | refine blk_drewN ?_ _ | refine blk_drew ?_ | refine blk_alloc ?_ _)); exact BK145.out)) : gb145 ≠ gb159))
             have n10_ := Aside0.mk ((by rw [hg]; exact Nat.ne_of_gt (blk_lt (g := gb145) (o := .cells #[.int .i64 t140, .int .i64 t141, .int .i64 t142, .int .i64 t143] 25 (0, 0)) (by (with_reducible repeat (first | refine blk_drewN ?_ _ | refine blk_drew ?_ | refine blk_alloc ?_ _)); exact BK145.out)) : gb159 ≠ gb145))
             have n11_ := Aside0.mk ((by rw [hg]; exact Nat.ne_of_lt (blk_lt (g := gb150) (o := .cells #[.int .i64 t146, .int .i64 t147, .int .i64 t148, .int .i64 t149] 25 (0, 0)) (by (with_reducible repeat (first | refine blk_drewN ?_ _ | refine blk_drew ?_ | refine blk_alloc ?_ _)); exact BK150.out)) : gb150 ≠ gb159))
             have n12_ := Aside0.mk ((by rw [hg]; exact Nat.ne_of_gt (blk_lt (g := gb150) (o := .cells #[.int .i64 t146, .int .i64 t147, .int .i64 t148, .int .i64 t149] 25 (0, 0)) (by (with_reducible repeat (first | refine blk_drewN ?_ _ | refine blk_drew ?_ | refine blk_alloc ?_ _)); exact BK150.out)) : gb159 ≠ gb150))
             clear BK139
             clear BK145
             clear BK150
             clear HB
             have BK139 := n0_
             have BK145 := n1_
             have BK150 := n2_
             have HB := n3_
             have BK159 := n4_
             have GW159 := n5_
             have GE159 := n6_
             have NB139_159 := n7_
             have NB159_139 := n8_
             have NB145_159 := n9_
             have NB159_145 := n10_
             have NB150_159 := n11_
             have NB159_150 := n12_
             clear n0_ n1_ n2_ n3_ n4_ n5_ n6_ n7_ n8_ n9_ n10_ n11_ n12_
             clear hb hbox hg
             refine hK.out _ _ ⟨(blk_cell BK139.out 0).trans rfl, (blk_cell BK139.out 1).trans rfl, (blk_cell BK139.out 2).trans rfl, (blk_cell BK139.out 3).trans rfl, (blk_cell BK150.out 0).trans rfl, (blk_cell BK150.out 1).trans rfl, (blk_cell BK150.out 2).trans rfl, (blk_cell BK150.out 3).trans rfl⟩ (fun hHeld => ?_)
             clear hK K
             refine norm_ (a' := ?_) ?_ ?_
             rotate_left
             ·show Act.put _ (some 5) _ = _
              simp only [Act.put, List.setIfInBounds_toArray, List.set_cons_zero, List.set_cons_succ, i64_w, i32_w]
              rfl
             refine one_ (i := 3) (N := some 25) #[true, true, true, true, false, true, false] rfl rfl (by kernel_rfl) (by decide) (fun K hK => ?_)
             refine goes_ Try.func20 (by kernel_rfl) rfl #[.agg #[.int .i64 t135, .int .i64 t136, .int .i64 t137, .int .i64 t138], .agg #[.int .i64 t146, .int .i64 t147, .int .i64 t148, .int .i64 t149]] (by rfl) rfl rfl (by (try simp only [List.map_toArray, List.map_cons, List.map_nil]); first | done | rfl | (simp only [List.length_drop, List.length_take]; rfl)) ?_
             with_reducible refine (drive_Halt.calls t135 t136 t137 t138 t146 t147 t148 t149 t151 t152 t153 t154 _ A4.out).mono ?_
             rintro e w42 ⟨rfl, hb⟩
             refine ⟨_, rfl, ?_⟩
             have n0_ := Aside0.mk (bb_ BK139.out hb)
             have n1_ := Aside0.mk (bb_ BK145.out hb)
             have n2_ := Aside0.mk (bb_ BK150.out hb)
             have n3_ := Aside0.mk (bb_ BK159.out hb)
             have n4_ := Aside0.mk (below_step (by repeat (first | (with_reducible first | exact HB.out | apply below_alloc | apply pw_below_drewN | apply below_drew1 | refine below_set ?_ GE139.out | refine below_set ?_ GE145.out | refine below_set ?_ GE150.out | refine below_set ?_ GE159.out) | exact HB.out)) hb)
             clear BK139
             clear BK145
             clear BK150
             clear BK159
             clear HB
             have BK139 := n0_
             have BK145 := n1_
             have BK150 := n2_
             have BK159 := n3_
             have HB := n4_
             clear n0_ n1_ n2_ n3_ n4_
             (try clear hb)
             (try clear hb2)
             (try clear hk)
             (try clear hi)
             refine hK.out _ _ ⟨(blk_cell BK139.out 0).trans rfl, (blk_cell BK139.out 1).trans rfl, (blk_cell BK139.out 2).trans rfl, (blk_cell BK139.out 3).trans rfl, (blk_cell BK150.out 0).trans rfl, (blk_cell BK150.out 1).trans rfl, (blk_cell BK150.out 2).trans rfl, (blk_cell BK150.out 3).trans rfl⟩ (fun hHeld => ?_)
             clear hK K
             refine norm_ (a' := ?_) ?_ ?_
             rotate_left
             ·show Act.put _ (some 25) _ = _
              simp only [Act.put, List.setIfInBounds_toArray, List.set_cons_zero, List.set_cons_succ, i64_w, i32_w]
              rfl
             refine one_ (i := 4) (N := some 26) #[true, true, true, true, true, true, false] rfl rfl (by kernel_rfl) (by decide) (fun K hK => ?_)
             refine goes_ Try.func24 (by kernel_rfl) rfl #[.agg #[.int .i64 t135, .int .i64 t136, .int .i64 t137, .int .i64 t138], .agg #[.int .i64 t151, .int .i64 t152, .int .i64 t153, .int .i64 t154], .int .i64 2] (by rfl) rfl rfl (by (try simp only [List.map_toArray, List.map_cons, List.map_nil]); first | done | rfl | (simp only [List.length_drop, List.length_take]; rfl)) ?_
             with_reducible refine (drive_Step.calls k t135 t136 t137 t138 t151 t152 t153 t154 2 t155 t156 t157 t158 _ A5.out).mono ?_
             rintro e w43 ⟨rfl, hb⟩
             refine ⟨_, rfl, ?_⟩
             have n0_ := Aside0.mk (bb_ BK139.out hb)
             have n1_ := Aside0.mk (bb_ BK145.out hb)
             have n2_ := Aside0.mk (bb_ BK150.out hb)
             have n3_ := Aside0.mk (bb_ BK159.out hb)
             have n4_ := Aside0.mk (below_step (by repeat (first | (with_reducible first | exact HB.out | apply below_alloc | apply pw_below_drewN | apply below_drew1 | refine below_set ?_ GE139.out | refine below_set ?_ GE145.out | refine below_set ?_ GE150.out | refine below_set ?_ GE159.out) | exact HB.out)) hb)
             clear BK139
             clear BK145
             clear BK150
             clear BK159
             clear HB
             have BK139 := n0_
             have BK145 := n1_
             have BK150 := n2_
             have BK159 := n3_
             have HB := n4_
             clear n0_ n1_ n2_ n3_ n4_
             (try clear hb)
             (try clear hb2)
             (try clear hk)
             (try clear hi)
             refine hK.out _ _ ⟨(blk_cell BK139.out 0).trans rfl, (blk_cell BK139.out 1).trans rfl, (blk_cell BK139.out 2).trans rfl, (blk_cell BK139.out 3).trans rfl, (blk_cell BK150.out 0).trans rfl, (blk_cell BK150.out 1).trans rfl, (blk_cell BK150.out 2).trans rfl, (blk_cell BK150.out 3).trans rfl⟩ (fun hHeld => ?_)
             clear hK K
             refine norm_ (a' := ?_) ?_ ?_
             rotate_left
             ·show Act.put _ (some 26) _ = _
              simp only [Act.put, List.setIfInBounds_toArray, List.set_cons_zero, List.set_cons_succ, i64_w, i32_w]
              rfl
             exact norm_ (by simp only [putAll, Act.put, List.setIfInBounds_toArray, List.set_cons_zero, List.set_cons_succ]) (hCont (gb159) _ ⟨hHeld, (by (with_reducible repeat (first | refine blk_drewN ?_ _ | refine blk_drew ?_ | refine blk_alloc ?_ _)); exact BK139.out), (by (with_reducible repeat (first | refine blk_drewN ?_ _ | refine blk_drew ?_ | refine blk_alloc ?_ _)); exact BK145.out), (by (with_reducible repeat (first | refine blk_drewN ?_ _ | refine blk_drew ?_ | refine blk_alloc ?_ _)); exact BK150.out), (by (with_reducible repeat (first | refine blk_drewN ?_ _ | refine blk_drew ?_ | refine blk_alloc ?_ _)); exact BK159.out), GW159.out, GE159.out, NB139_159.out, NB159_139.out, NB145_159.out, NB159_145.out, NB150_159.out, NB159_150.out, (by repeat (first | (with_reducible first | exact HB.out | apply below_alloc | apply pw_below_drewN | apply below_drew1 | refine below_set ?_ GE139.out | refine below_set ?_ GE145.out | refine below_set ?_ GE150.out | refine below_set ?_ GE159.out) | exact HB.out))⟩)
           rintro gb159 w44 ⟨hS_, h0_, h1_, h2_, h3_, h4_, h5_, h6_, h7_, h8_, h9_, h10_, h11_, h12_⟩
           have n0_ : Aside0 (w44.heap[gb139]? = some (.cells #[.int .i64 t135, .int .i64 t136, .int .i64 t137, .int .i64 t138] 23 (0, 0))) := ⟨h0_⟩
           have n1_ : Aside0 (w44.heap[gb145]? = some (.cells #[.int .i64 t140, .int .i64 t141, .int .i64 t142, .int .i64 t143] 25 (0, 0))) := ⟨h1_⟩
           have n2_ : Aside0 (w44.heap[gb150]? = some (.cells #[.int .i64 t146, .int .i64 t147, .int .i64 t148, .int .i64 t149] 25 (0, 0))) := ⟨h2_⟩
           have n3_ : Aside0 (w44.heap[gb159]? = some (.cells #[.int .i64 0, .int .i64 0, .int .i64 0, .int .i64 0] 25 (0, 0))) := ⟨h3_⟩
           have n4_ : Aside0 (w.heap.size ≤ gb159) := ⟨h4_⟩
           have n5_ : Aside0 (w.heap.size ≤ gb159) := ⟨h5_⟩
           have n6_ : Aside0 (gb139 ≠ gb159) := ⟨h6_⟩
           have n7_ : Aside0 (gb159 ≠ gb139) := ⟨h7_⟩
           have n8_ : Aside0 (gb145 ≠ gb159) := ⟨h8_⟩
           have n9_ : Aside0 (gb159 ≠ gb145) := ⟨h9_⟩
           have n10_ : Aside0 (gb150 ≠ gb159) := ⟨h10_⟩
           have n11_ : Aside0 (gb159 ≠ gb150) := ⟨h11_⟩
           have n12_ : Aside0 (Below w.heap.size w w44) := ⟨h12_⟩
           clear BK139
           clear BK145
           clear BK150
           clear HB
           clear h0_ h1_ h2_ h3_ h4_ h5_ h6_ h7_ h8_ h9_ h10_ h11_ h12_
           have BK139 := n0_
           have BK145 := n1_
           have BK150 := n2_
           have BK159 := n3_
           have GW159 := n4_
           have GE159 := n5_
           have NB139_159 := n6_
           have NB159_139 := n7_
           have NB145_159 := n8_
           have NB159_145 := n9_
           have NB150_159 := n10_
           have NB159_150 := n11_
           have HB := n12_
           clear n0_ n1_ n2_ n3_ n4_ n5_ n6_ n7_ n8_ n9_ n10_ n11_ n12_
           have hHeld : w44.cell? ⟨gb139, 0, none⟩ = some (.int .i64 t135) ∧ w44.cell? ⟨gb139, 1, none⟩ = some (.int .i64 t136) ∧ w44.cell? ⟨gb139, 2, none⟩ = some (.int .i64 t137) ∧ w44.cell? ⟨gb139, 3, none⟩ = some (.int .i64 t138) ∧ w44.cell? ⟨gb150, 0, none⟩ = some (.int .i64 t146) ∧ w44.cell? ⟨gb150, 1, none⟩ = some (.int .i64 t147) ∧ w44.cell? ⟨gb150, 2, none⟩ = some (.int .i64 t148) ∧ w44.cell? ⟨gb150, 3, none⟩ = some (.int .i64 t149) := hS_
           refine norm_ (a' := ?_) ?_ ?_
           rotate_left
           ·simp only [putAll, Act.put, List.setIfInBounds_toArray, List.set_cons_zero, List.set_cons_succ]
            rfl
           refine one_ (i := 6) (N := none) #[true, true, true, true, true, true, true] rfl rfl (by kernel_rfl) (by decide) (fun K hK => ?_)
           have hs45 : w44.cell? ⟨gb159, 0, none⟩ = some (.int .i64 0) := (blk_cell BK159.out 0).trans rfl
           have hfs45 := blk_frozen BK159.out 0
           have hns45_0 := NB139_159.out
           have hns45_1 := NB145_159.out
           have hns45_2 := NB150_159.out
           have hms45_0 := NB159_139.out
           have hms45_1 := NB159_145.out
           have hms45_2 := NB159_150.out
           have hs46 : w44.cell? ⟨gb159, 1, none⟩ = some (.int .i64 0) := (blk_cell BK159.out 1).trans rfl
           have hfs46 := blk_frozen BK159.out 1
           have hns46_0 := NB139_159.out
           have hns46_1 := NB145_159.out
           have hns46_2 := NB150_159.out
           have hms46_0 := NB159_139.out
           have hms46_1 := NB159_145.out
           have hms46_2 := NB159_150.out
           have hs47 : w44.cell? ⟨gb159, 2, none⟩ = some (.int .i64 0) := (blk_cell BK159.out 2).trans rfl
           have hfs47 := blk_frozen BK159.out 2
           have hns47_0 := NB139_159.out
           have hns47_1 := NB145_159.out
           have hns47_2 := NB150_159.out
           have hms47_0 := NB159_139.out
           have hms47_1 := NB159_145.out
           have hms47_2 := NB159_150.out
           have hs48 : w44.cell? ⟨gb159, 3, none⟩ = some (.int .i64 0) := (blk_cell BK159.out 3).trans rfl
           have hfs48 := blk_frozen BK159.out 3
           have hns48_0 := NB139_159.out
           have hns48_1 := NB145_159.out
           have hns48_2 := NB150_159.out
           have hms48_0 := NB159_139.out
           have hms48_1 := NB159_145.out
           have hms48_2 := NB159_150.out
           refine skip_ (w1 := ?_) (by rfl) rfl ?_ ?_
           rotate_left
           ·go_simp
            rfl
           refine hK.out _ _ ⟨((cell_far (p := ⟨gb159, _, none⟩) NB139_159.out _).trans (((cell_far (p := ⟨gb159, _, none⟩) NB139_159.out _).trans (((cell_far (p := ⟨gb159, _, none⟩) NB139_159.out _).trans (((cell_far (p := ⟨gb159, _, none⟩) NB139_159.out _).trans (hHeld.1)))))))), ((cell_far (p := ⟨gb159, _, none⟩) NB139_159.out _).trans (((cell_far (p := ⟨gb159, _, none⟩) NB139_159.out _).trans (((cell_far (p := ⟨gb159, _, none⟩) NB139_159.out _).trans (((cell_far (p := ⟨gb159, _, none⟩) NB139_159.out _).trans (hHeld.2.1)))))))), ((cell_far (p := ⟨gb159, _, none⟩) NB139_159.out _).trans (((cell_far (p := ⟨gb159, _, none⟩) NB139_159.out _).trans (((cell_far (p := ⟨gb159, _, none⟩) NB139_159.out _).trans (((cell_far (p := ⟨gb159, _, none⟩) NB139_159.out _).trans (hHeld.2.2.1)))))))), ((cell_far (p := ⟨gb159, _, none⟩) NB139_159.out _).trans (((cell_far (p := ⟨gb159, _, none⟩) NB139_159.out _).trans (((cell_far (p := ⟨gb159, _, none⟩) NB139_159.out _).trans (((cell_far (p := ⟨gb159, _, none⟩) NB139_159.out _).trans (hHeld.2.2.2.1)))))))), ((cell_far (p := ⟨gb159, _, none⟩) NB150_159.out _).trans (((cell_far (p := ⟨gb159, _, none⟩) NB150_159.out _).trans (((cell_far (p := ⟨gb159, _, none⟩) NB150_159.out _).trans (((cell_far (p := ⟨gb159, _, none⟩) NB150_159.out _).trans (hHeld.2.2.2.2.1)))))))), ((cell_far (p := ⟨gb159, _, none⟩) NB150_159.out _).trans (((cell_far (p := ⟨gb159, _, none⟩) NB150_159.out _).trans (((cell_far (p := ⟨gb159, _, none⟩) NB150_159.out _).trans (((cell_far (p := ⟨gb159, _, none⟩) NB150_159.out _).trans (hHeld.2.2.2.2.2.1)))))))), ((cell_far (p := ⟨gb159, _, none⟩) NB150_159.out _).trans (((cell_far (p := ⟨gb159, _, none⟩) NB150_159.out _).trans (((cell_far (p := ⟨gb159, _, none⟩) NB150_159.out _).trans (((cell_far (p := ⟨gb159, _, none⟩) NB150_159.out _).trans (hHeld.2.2.2.2.2.2.1)))))))), ((cell_far (p := ⟨gb159, _, none⟩) NB150_159.out _).trans (((cell_far (p := ⟨gb159, _, none⟩) NB150_159.out _).trans (((cell_far (p := ⟨gb159, _, none⟩) NB150_159.out _).trans (((cell_far (p := ⟨gb159, _, none⟩) NB150_159.out _).trans (hHeld.2.2.2.2.2.2.2))))))))⟩ (fun hHeld => ?_)
           clear hK K
           refine done_ (by kernel_rfl) ?_
           try go_wp2_with (first | ((with_reducible refine gate_dst (N := 6) rfl ?_); refine box_event ?hg (N := 6) ?hd (cs := #[.int .i64 0, .int .i64 0, .int .i64 0, .int .i64 0]) (t := 25) ?hr ?_; (case hd => rfl); (case hg => rfl); (case hr => first | (go_simp; done) | (go_simp; rfl)); intro gb160 hg w49 hbox hb; have n0_ := Aside0.mk (blk_below (g := gb139) (o := .cells #[.int .i64 t135, .int .i64 t136, .int .i64 t137, .int .i64 t138] 23 (0, 0)) (by (with_reducible repeat (first | refine blk_drewN ?_ _ | refine blk_drew ?_ | refine blk_alloc ?_ _)); refine blk_far ?_ NB139_159.out _; (with_reducible repeat (first | refine blk_drewN ?_ _ | refine blk_drew ?_ | refine blk_alloc ?_ _)); refine blk_far ?_ NB139_159.out _; (with_reducible repeat (first | refine blk_drewN ?_ _ | refine blk_drew ?_ | refine blk_alloc ?_ _)); refine blk_far ?_ NB139_159.out _; (with_reducible repeat (first | refine blk_drewN ?_ _ | refine blk_drew ?_ | refine blk_alloc ?_ _)); refine blk_far ?_ NB139_159.out _; (with_reducible repeat (first | refine blk_drewN ?_ _ | refine blk_drew ?_ | refine blk_alloc ?_ _)); exact BK139.out) hb); have n1_ := Aside0.mk (blk_below (g := gb145) (o := .cells #[.int .i64 t140, .int .i64 t141, .int .i64 t142, .int .i64 t143] 25 (0, 0)) (by (with_reducible repeat (first | refine blk_drewN ?_ _ | refine blk_drew ?_ | refine blk_alloc ?_ _)); refine blk_far ?_ NB145_159.out _; (with_reducible repeat (first | refine blk_drewN ?_ _ | refine blk_drew ?_ | refine blk_alloc ?_ _)); refine blk_far ?_ NB145_159.out _; (with_reducible repeat (first | refine blk_drewN ?_ _ | refine blk_drew ?_ | refine blk_alloc ?_ _)); refine blk_far ?_ NB145_159.out _; (with_reducible repeat (first | refine blk_drewN ?_ _ | refine blk_drew ?_ | refine blk_alloc ?_ _)); refine blk_far ?_ NB145_159.out _; (with_reducible repeat (first | refine blk_drewN ?_ _ | refine blk_drew ?_ | refine blk_alloc ?_ _)); exact BK145.out) hb); have n2_ := Aside0.mk (blk_below (g := gb150) (o := .cells #[.int .i64 t146, .int .i64 t147, .int .i64 t148, .int .i64 t149] 25 (0, 0)) (by (with_reducible repeat (first | refine blk_drewN ?_ _ | refine blk_drew ?_ | refine blk_alloc ?_ _)); refine blk_far ?_ NB150_159.out _; (with_reducible repeat (first | refine blk_drewN ?_ _ | refine blk_drew ?_ | refine blk_alloc ?_ _)); refine blk_far ?_ NB150_159.out _; (with_reducible repeat (first | refine blk_drewN ?_ _ | refine blk_drew ?_ | refine blk_alloc ?_ _)); refine blk_far ?_ NB150_159.out _; (with_reducible repeat (first | refine blk_drewN ?_ _ | refine blk_drew ?_ | refine blk_alloc ?_ _)); refine blk_far ?_ NB150_159.out _; (with_reducible repeat (first | refine blk_drewN ?_ _ | refine blk_drew ?_ | refine blk_alloc ?_ _)); exact BK150.out) hb); have n3_ := Aside0.mk (blk_below (g := gb159) (o := .cells #[.int .i64 t155, .int .i64 t156, .int .i64 t157, .int .i64 t158] 25 (0, 0)) (by (with_reducible repeat (first | refine blk_drewN ?_ _ | refine blk_drew ?_ | refine blk_alloc ?_ _)); refine blk_put (cs := #[.int .i64 t155, .int .i64 t156, .int .i64 t157, .int .i64 0]) ?_ 3 _ rfl; (with_reducible repeat (first | refine blk_drewN ?_ _ | refine blk_drew ?_ | refine blk_alloc ?_ _)); refine blk_put (cs := #[.int .i64 t155, .int .i64 t156, .int .i64 0, .int .i64 0]) ?_ 2 _ rfl; (with_reducible repeat (first | refine blk_drewN ?_ _ | refine blk_drew ?_ | refine blk_alloc ?_ _)); refine blk_put (cs := #[.int .i64 t155, .int .i64 0, .int .i64 0, .int .i64 0]) ?_ 1 _ rfl; (with_reducible repeat (first | refine blk_drewN ?_ _ | refine blk_drew ?_ | refine blk_alloc ?_ _)); refine blk_put (cs := #[.int .i64 0, .int .i64 0, .int .i64 0, .int .i64 0]) ?_ 0 _ rfl; (with_reducible repeat (first | refine blk_drewN ?_ _ | refine blk_drew ?_ | refine blk_alloc ?_ _)); exact BK159.out) hb); have n4_ := Aside0.mk (below_step (by repeat (first | (with_reducible first | exact HB.out | apply below_alloc | apply pw_below_drewN | apply below_drew1 | refine below_set ?_ GE139.out | refine below_set ?_ GE145.out | refine below_set ?_ GE150.out | refine below_set ?_ GE159.out) | exact HB.out)) hb); have n5_ := Aside0.mk (hbox); have n6_ := Aside0.mk ((by rw [hg]; exact (below_size (by repeat (first | (with_reducible first | exact HB.out | apply below_alloc | apply pw_below_drewN | apply below_drew1 | refine below_set ?_ GE139.out | refine below_set ?_ GE145.out | refine below_set ?_ GE150.out | refine below_set ?_ GE159.out) | exact HB.out))) : w.heap.size ≤ gb160)); have n7_ := Aside0.mk ((by rw [hg]; exact (below_size (by repeat (first | (with_reducible first | exact HB.out | apply below_alloc | apply pw_below_drewN | apply below_drew1 | refine below_set ?_ GE139.out | refine below_set ?_ GE145.out | refine below_set ?_ GE150.out | refine below_set ?_ GE159.out) | exact HB.out))) : w.heap.size ≤ gb160)); have n8_ := Aside0.mk ((by rw [hg]; exact Nat.ne_of_lt (blk_lt (g := gb139) (o := .cells #[.int .i64 t135, .int .i64 t136, .int .i64 t137, .int .i64 t138] 23 (0, 0)) (by (with_reducible repeat (first | refine blk_drewN ?_ _ | refine blk_drew ?_ | refine blk_alloc ?_ _)); refine blk_far ?_ NB139_159.out _; (with_reducible repeat (first | refine blk_drewN ?_ _ | refine blk_drew ?_ | refine blk_alloc ?_ _)); refine blk_far ?_ NB139_159.out _; (with_reducible repeat (first | refine blk_drewN ?_ _ | refine blk_drew ?_ | refine blk_alloc ?_ _)); refine blk_far ?_ NB139_159.out _; (with_reducible repeat (first | refine blk_drewN ?_ _ | refine blk_drew ?_ | refine blk_alloc ?_ _)); refine blk_far ?_ NB139_159.out _; (with_reducible repeat (first | refine blk_drewN ?_ _ | refine blk_drew ?_ | refine blk_alloc ?_ _)); exact BK139.out)) : gb139 ≠ gb160)); have n9_ := Aside0.mk ((by rw [hg]; exact Nat.ne_of_gt (blk_lt (g := gb139) (o := .cells #[.int .i64 t135, .int .i64 t136, .int .i64 t137, .int .i64 t138] 23 (0, 0)) (by (with_reducible repeat (first | refine blk_drewN ?_ _ | refine blk_drew ?_ | refine blk_alloc ?_ _)); refine blk_far ?_ NB139_159.out _; (with_reducible repeat (first | refine blk_drewN ?_ _ | refine blk_drew ?_ | refine blk_alloc ?_ _)); refine blk_far ?_ NB139_159.out _; (with_reducible repeat (first | refine blk_drewN ?_ _ | refine blk_drew ?_ | refine blk_alloc ?_ _)); refine blk_far ?_ NB139_159.out _; (with_reducible repeat (first | refine blk_drewN ?_ _ | refine blk_drew ?_ | refine blk_alloc ?_ _)); refine blk_far ?_ NB139_159.out _; (with_reducible repeat (first | refine blk_drewN ?_ _ | refine blk_drew ?_ | refine blk_alloc ?_ _)); exact BK139.out)) : gb160 ≠ gb139)); have n10_ := Aside0.mk ((by rw [hg]; exact Nat.ne_of_lt (blk_lt (g := gb145) (o := .cells #[.int .i64 t140, .int .i64 t141, .int .i64 t142, .int .i64 t143] 25 (0, 0)) (by (with_reducible repeat (first | refine blk_drewN ?_ _ | refine blk_drew ?_ | refine blk_alloc ?_ _)); refine blk_far ?_ NB145_159.out _; (with_reducible repeat (first | refine blk_drewN ?_ _ | refine blk_drew ?_ | refine blk_alloc ?_ _)); refine blk_far ?_ NB145_159.out _; (with_reducible repeat (first | refine blk_drewN ?_ _ | refine blk_drew ?_ | refine blk_alloc ?_ _)); refine blk_far ?_ NB145_159.out _; (with_reducible repeat (first | refine blk_drewN ?_ _ | refine blk_drew ?_ | refine blk_alloc ?_ _)); refine blk_far ?_ NB145_159.out _; (with_reducible repeat (first | refine blk_drewN ?_ _ | refine blk_drew ?_ | refine blk_alloc ?_ _)); exact BK145.out)) : gb145 ≠ gb160)); have n11_ := Aside0.mk ((by rw [hg]; exact Nat.ne_of_gt (blk_lt (g := gb145) (o := .cells #[.int .i64 t140, .int .i64 t141, .int .i64 t142, .int .i64 t143] 25 (0, 0)) (by (with_reducible repeat (first | refine blk_drewN ?_ _ | refine blk_drew ?_ | refine blk_alloc ?_ _)); refine blk_far ?_ NB145_159.out _; (with_reducible repeat (first | refine blk_drewN ?_ _ | refine blk_drew ?_ | refine blk_alloc ?_ _)); refine blk_far ?_ NB145_159.out _; (with_reducible repeat (first | refine blk_drewN ?_ _ | refine blk_drew ?_ | refine blk_alloc ?_ _)); refine blk_far ?_ NB145_159.out _; (with_reducible repeat (first | refine blk_drewN ?_ _ | refine blk_drew ?_ | refine blk_alloc ?_ _)); refine blk_far ?_ NB145_159.out _; (with_reducible repeat (first | refine blk_drewN ?_ _ | refine blk_drew ?_ | refine blk_alloc ?_ _)); exact BK145.out)) : gb160 ≠ gb145)); have n12_ := Aside0.mk ((by rw [hg]; exact Nat.ne_of_lt (blk_lt (g := gb150) (o := .cells #[.int .i64 t146, .int .i64 t147, .int .i64 t148, .int .i64 t149] 25 (0, 0)) (by (with_reducible repeat (first | refine blk_drewN ?_ _ | refine blk_drew ?_ | refine blk_alloc ?_ _)); refine blk_far ?_ NB150_159.out _; (with_reducible repeat (first | refine blk_drewN ?_ _ | refine blk_drew ?_ | refine blk_alloc ?_ _)); refine blk_far ?_ NB150_159.out _; (with_reducible repeat (first | refine blk_drewN ?_ _ | refine blk_drew ?_ | refine blk_alloc ?_ _)); refine blk_far ?_ NB150_159.out _; (with_reducible repeat (first | refine blk_drewN ?_ _ | refine blk_drew ?_ | refine blk_alloc ?_ _)); refine blk_far ?_ NB150_159.out _; (with_reducible repeat (first | refine blk_drewN ?_ _ | refine blk_drew ?_ | refine blk_alloc ?_ _)); exact BK150.out)) : gb150 ≠ gb160)); have n13_ := Aside0.mk ((by rw [hg]; exact Nat.ne_of_gt (blk_lt (g := gb150) (o := .cells #[.int .i64 t146, .int .i64 t147, .int .i64 t148, .int .i64 t149] 25 (0, 0)) (by (with_reducible repeat (first | refine blk_drewN ?_ _ | refine blk_drew ?_ | refine blk_alloc ?_ _)); refine blk_far ?_ NB150_159.out _; (with_reducible repeat (first | refine blk_drewN ?_ _ | refine blk_drew ?_ | refine blk_alloc ?_ _)); refine blk_far ?_ NB150_159.out _; (with_reducible repeat (first | refine blk_drewN ?_ _ | refine blk_drew ?_ | refine blk_alloc ?_ _)); refine blk_far ?_ NB150_159.out _; (with_reducible repeat (first | refine blk_drewN ?_ _ | refine blk_drew ?_ | refine blk_alloc ?_ _)); refine blk_far ?_ NB150_159.out _; (with_reducible repeat (first | refine blk_drewN ?_ _ | refine blk_drew ?_ | refine blk_alloc ?_ _)); exact BK150.out)) : gb160 ≠ gb150)); have n14_ := Aside0.mk ((by rw [hg]; exact Nat.ne_of_lt (blk_lt (g := gb159) (o := .cells #[.int .i64 t155, .int .i64 t156, .int .i64 t157, .int .i64 t158] 25 (0, 0)) (by (with_reducible repeat (first | refine blk_drewN ?_ _ | refine blk_drew ?_ | refine blk_alloc ?_ _)); refine blk_put (cs := #[.int .i64 t155, .int .i64 t156, .int .i64 t157, .int .i64 0]) ?_ 3 _ rfl; (with_reducible repeat (first | refine blk_drewN ?_ _ | refine blk_drew ?_ | refine blk_alloc ?_ _)); refine blk_put (cs := #[.int .i64 t155, .int .i64 t156, .int .i64 0, .int .i64 0]) ?_ 2 _ rfl; (with_reducible repeat (first | refine blk_drewN ?_ _ | refine blk_drew ?_ | refine blk_alloc ?_ _)); refine blk_put (cs := #[.int .i64 t155, .int .i64 0, .int .i64 0, .int .i64 0]) ?_ 1 _ rfl; (with_reducible repeat (first | refine blk_drewN ?_ _ | refine blk_drew ?_ | refine blk_alloc ?_ _)); refine blk_put (cs := #[.int .i64 0, .int .i64 0, .int .i64 0, .int .i64 0]) ?_ 0 _ rfl; (with_reducible repeat (first | refine blk_drewN ?_ _ | refine blk_drew ?_ | refine blk_alloc ?_ _)); exact BK159.out)) : gb159 ≠ gb160)); have n15_ := Aside0.mk ((by rw [hg]; exact Nat.ne_of_gt (blk_lt (g := gb159) (o := .cells #[.int .i64 t155, .int .i64 t156, .int .i64 t157, .int .i64 t158] 25 (0, 0)) (by (with_reducible repeat (first | refine blk_drewN ?_ _ | refine blk_drew ?_ | refine blk_alloc ?_ _)); refine blk_put (cs := #[.int .i64 t155, .int .i64 t156, .int .i64 t157, .int .i64 0]) ?_ 3 _ rfl; (with_reducible repeat (first | refine blk_drewN ?_ _ | refine blk_drew ?_ | refine blk_alloc ?_ _)); refine blk_put (cs := #[.int .i64 t155, .int .i64 t156, .int .i64 0, .int .i64 0]) ?_ 2 _ rfl; (with_reducible repeat (first | refine blk_drewN ?_ _ | refine blk_drew ?_ | refine blk_alloc ?_ _)); refine blk_put (cs := #[.int .i64 t155, .int .i64 0, .int .i64 0, .int .i64 0]) ?_ 1 _ rfl; (with_reducible repeat (first | refine blk_drewN ?_ _ | refine blk_drew ?_ | refine blk_alloc ?_ _)); refine blk_put (cs := #[.int .i64 0, .int .i64 0, .int .i64 0, .int .i64 0]) ?_ 0 _ rfl; (with_reducible repeat (first | refine blk_drewN ?_ _ | refine blk_drew ?_ | refine blk_alloc ?_ _)); exact BK159.out)) : gb160 ≠ gb159)); clear BK139; clear BK145; clear BK150; clear BK159; clear HB; have BK139 := n0_; have BK145 := n1_; have BK150 := n2_; have BK159 := n3_; have HB := n4_; have BK160 := n5_; have GW160 := n6_; have GE160 := n7_; have NB139_160 := n8_; have NB160_139 := n9_; have NB145_160 := n10_; have NB160_145 := n11_; have NB150_160 := n12_; have NB160_150 := n13_; have NB159_160 := n14_; have NB160_159 := n15_; clear n0_ n1_ n2_ n3_ n4_ n5_ n6_ n7_ n8_ n9_ n10_ n11_ n12_ n13_ n14_ n15_; clear hb hbox hg; have hnb50 := NB160_139.out; have hnc50 := NB139_160.out; have hnb51 := NB160_145.out; have hnc51 := NB145_160.out; have hnb52 := NB160_150.out; have hnc52 := NB150_160.out; have hnb53 := NB160_159.out; have hnc53 := NB159_160.out; have hcz54_0 : w49.cell? ⟨gb160, 0, none⟩ = some (.int .i64 0) := (blk_cell BK160.out 0).trans rfl; have hcz54_1 : w49.cell? ⟨gb160, 1, none⟩ = some (.int .i64 0) := (blk_cell BK160.out 1).trans rfl; have hcz54_2 : w49.cell? ⟨gb160, 2, none⟩ = some (.int .i64 0) := (blk_cell BK160.out 2).trans rfl; have hcz54_3 : w49.cell? ⟨gb160, 3, none⟩ = some (.int .i64 0) := (blk_cell BK160.out 3).trans rfl; have hfz54_0 := blk_frozen BK160.out 0; have hfz54_1 := blk_frozen BK160.out 1; have hfz54_2 := blk_frozen BK160.out 2; have hfz54_3 := blk_frozen BK160.out 3))
           have n0_ : Aside0 (((((w49.setCell ⟨gb160, 0, none⟩ (.int .i64 1)).setCell ⟨gb160, 1, none⟩ (.int .i64 5000)).setCell ⟨gb160, 2, none⟩ (.int .i64 5000)).setCell ⟨gb160, 3, none⟩ (.int .i64 0)).heap[gb139]? = some (.cells #[.int .i64 t135, .int .i64 t136, .int .i64 t137, .int .i64 t138] 23 (0, 0))) := ⟨by (with_reducible repeat (first | refine blk_drewN ?_ _ | refine blk_drew ?_ | refine blk_alloc ?_ _)); refine blk_far ?_ NB139_160.out _; (with_reducible repeat (first | refine blk_drewN ?_ _ | refine blk_drew ?_ | refine blk_alloc ?_ _)); refine blk_far ?_ NB139_160.out _; (with_reducible repeat (first | refine blk_drewN ?_ _ | refine blk_drew ?_ | refine blk_alloc ?_ _)); refine blk_far ?_ NB139_160.out _; (with_reducible repeat (first | refine blk_drewN ?_ _ | refine blk_drew ?_ | refine blk_alloc ?_ _)); refine blk_far ?_ NB139_160.out _; (with_reducible repeat (first | refine blk_drewN ?_ _ | refine blk_drew ?_ | refine blk_alloc ?_ _)); exact BK139.out⟩
           have n1_ : Aside0 (((((w49.setCell ⟨gb160, 0, none⟩ (.int .i64 1)).setCell ⟨gb160, 1, none⟩ (.int .i64 5000)).setCell ⟨gb160, 2, none⟩ (.int .i64 5000)).setCell ⟨gb160, 3, none⟩ (.int .i64 0)).heap[gb145]? = some (.cells #[.int .i64 t140, .int .i64 t141, .int .i64 t142, .int .i64 t143] 25 (0, 0))) := ⟨by (with_reducible repeat (first | refine blk_drewN ?_ _ | refine blk_drew ?_ | refine blk_alloc ?_ _)); refine blk_far ?_ NB145_160.out _; (with_reducible repeat (first | refine blk_drewN ?_ _ | refine blk_drew ?_ | refine blk_alloc ?_ _)); refine blk_far ?_ NB145_160.out _; (with_reducible repeat (first | refine blk_drewN ?_ _ | refine blk_drew ?_ | refine blk_alloc ?_ _)); refine blk_far ?_ NB145_160.out _; (with_reducible repeat (first | refine blk_drewN ?_ _ | refine blk_drew ?_ | refine blk_alloc ?_ _)); refine blk_far ?_ NB145_160.out _; (with_reducible repeat (first | refine blk_drewN ?_ _ | refine blk_drew ?_ | refine blk_alloc ?_ _)); exact BK145.out⟩
           have n2_ : Aside0 (((((w49.setCell ⟨gb160, 0, none⟩ (.int .i64 1)).setCell ⟨gb160, 1, none⟩ (.int .i64 5000)).setCell ⟨gb160, 2, none⟩ (.int .i64 5000)).setCell ⟨gb160, 3, none⟩ (.int .i64 0)).heap[gb150]? = some (.cells #[.int .i64 t146, .int .i64 t147, .int .i64 t148, .int .i64 t149] 25 (0, 0))) := ⟨by (with_reducible repeat (first | refine blk_drewN ?_ _ | refine blk_drew ?_ | refine blk_alloc ?_ _)); refine blk_far ?_ NB150_160.out _; (with_reducible repeat (first | refine blk_drewN ?_ _ | refine blk_drew ?_ | refine blk_alloc ?_ _)); refine blk_far ?_ NB150_160.out _; (with_reducible repeat (first | refine blk_drewN ?_ _ | refine blk_drew ?_ | refine blk_alloc ?_ _)); refine blk_far ?_ NB150_160.out _; (with_reducible repeat (first | refine blk_drewN ?_ _ | refine blk_drew ?_ | refine blk_alloc ?_ _)); refine blk_far ?_ NB150_160.out _; (with_reducible repeat (first | refine blk_drewN ?_ _ | refine blk_drew ?_ | refine blk_alloc ?_ _)); exact BK150.out⟩
           have n3_ : Aside0 (((((w49.setCell ⟨gb160, 0, none⟩ (.int .i64 1)).setCell ⟨gb160, 1, none⟩ (.int .i64 5000)).setCell ⟨gb160, 2, none⟩ (.int .i64 5000)).setCell ⟨gb160, 3, none⟩ (.int .i64 0)).heap[gb159]? = some (.cells #[.int .i64 t155, .int .i64 t156, .int .i64 t157, .int .i64 t158] 25 (0, 0))) := ⟨by (with_reducible repeat (first | refine blk_drewN ?_ _ | refine blk_drew ?_ | refine blk_alloc ?_ _)); refine blk_far ?_ NB159_160.out _; (with_reducible repeat (first | refine blk_drewN ?_ _ | refine blk_drew ?_ | refine blk_alloc ?_ _)); refine blk_far ?_ NB159_160.out _; (with_reducible repeat (first | refine blk_drewN ?_ _ | refine blk_drew ?_ | refine blk_alloc ?_ _)); refine blk_far ?_ NB159_160.out _; (with_reducible repeat (first | refine blk_drewN ?_ _ | refine blk_drew ?_ | refine blk_alloc ?_ _)); refine blk_far ?_ NB159_160.out _; (with_reducible repeat (first | refine blk_drewN ?_ _ | refine blk_drew ?_ | refine blk_alloc ?_ _)); exact BK159.out⟩
           have n4_ : Aside0 (((((w49.setCell ⟨gb160, 0, none⟩ (.int .i64 1)).setCell ⟨gb160, 1, none⟩ (.int .i64 5000)).setCell ⟨gb160, 2, none⟩ (.int .i64 5000)).setCell ⟨gb160, 3, none⟩ (.int .i64 0)).heap[gb160]? = some (.cells #[.int .i64 1, .int .i64 5000, .int .i64 5000, .int .i64 0] 25 (0, 0))) := ⟨by (with_reducible repeat (first | refine blk_drewN ?_ _ | refine blk_drew ?_ | refine blk_alloc ?_ _)); refine blk_put (cs := #[.int .i64 1, .int .i64 5000, .int .i64 5000, .int .i64 0]) ?_ 3 _ rfl; (with_reducible repeat (first | refine blk_drewN ?_ _ | refine blk_drew ?_ | refine blk_alloc ?_ _)); refine blk_put (cs := #[.int .i64 1, .int .i64 5000, .int .i64 0, .int .i64 0]) ?_ 2 _ rfl; (with_reducible repeat (first | refine blk_drewN ?_ _ | refine blk_drew ?_ | refine blk_alloc ?_ _)); refine blk_put (cs := #[.int .i64 1, .int .i64 0, .int .i64 0, .int .i64 0]) ?_ 1 _ rfl; (with_reducible repeat (first | refine blk_drewN ?_ _ | refine blk_drew ?_ | refine blk_alloc ?_ _)); refine blk_put (cs := #[.int .i64 0, .int .i64 0, .int .i64 0, .int .i64 0]) ?_ 0 _ rfl; (with_reducible repeat (first | refine blk_drewN ?_ _ | refine blk_drew ?_ | refine blk_alloc ?_ _)); exact BK160.out⟩
           have n5_ : Aside0 (Below w.heap.size w ((((w49.setCell ⟨gb160, 0, none⟩ (.int .i64 1)).setCell ⟨gb160, 1, none⟩ (.int .i64 5000)).setCell ⟨gb160, 2, none⟩ (.int .i64 5000)).setCell ⟨gb160, 3, none⟩ (.int .i64 0))) := ⟨by repeat (first | (with_reducible first | exact HB.out | apply below_alloc | apply pw_below_drewN | apply below_drew1 | refine below_set ?_ GE139.out | refine below_set ?_ GE145.out | refine below_set ?_ GE150.out | refine below_set ?_ GE159.out | refine below_set ?_ GE160.out) | exact HB.out)⟩
           (try clear BK139)
           (try clear BK145)
           (try clear BK150)
           (try clear BK159)
           (try clear BK160)
           (try clear HB)
           generalize ((((w49.setCell ⟨gb160, 0, none⟩ (.int .i64 1)).setCell ⟨gb160, 1, none⟩ (.int .i64 5000)).setCell ⟨gb160, 2, none⟩ (.int .i64 5000)).setCell ⟨gb160, 3, none⟩ (.int .i64 0)) = w55 at n0_ n1_ n2_ n3_ n4_ n5_ ⊢
           have BK139 := n0_
           have BK145 := n1_
           have BK150 := n2_
           have BK159 := n3_
           have BK160 := n4_
           have HB := n5_
           clear n0_ n1_ n2_ n3_ n4_ n5_
           have n0_ := Aside0.mk (blk_drew BK139.out)
           have n1_ := Aside0.mk (blk_drew BK145.out)
           have n2_ := Aside0.mk (blk_drew BK150.out)
           have n3_ := Aside0.mk (blk_drew BK159.out)
           have n4_ := Aside0.mk (blk_drew BK160.out)
           have n5_ := Aside0.mk (below_drew1 HB.out)
           clear BK139
           clear BK145
           clear BK150
           clear BK159
           clear BK160
           clear HB
           have BK139 := n0_
           have BK145 := n1_
           have BK150 := n2_
           have BK159 := n3_
           have BK160 := n4_
           have HB := n5_
           clear n0_ n1_ n2_ n3_ n4_ n5_
           refine start_ (n := 7) (S := fun w' => w'.cell? ⟨gb139, 0, none⟩ = some (.int .i64 t135) ∧ w'.cell? ⟨gb139, 1, none⟩ = some (.int .i64 t136) ∧ w'.cell? ⟨gb139, 2, none⟩ = some (.int .i64 t137) ∧ w'.cell? ⟨gb139, 3, none⟩ = some (.int .i64 t138) ∧ w'.cell? ⟨gb160, 0, none⟩ = some (.int .i64 1) ∧ w'.cell? ⟨gb160, 1, none⟩ = some (.int .i64 5000) ∧ w'.cell? ⟨gb160, 2, none⟩ = some (.int .i64 5000) ∧ w'.cell? ⟨gb160, 3, none⟩ = some (.int .i64 0)) (ds := []) #[false, false, false, false, false, false, false] (by kernel_rfl) rfl rfl ⟨(blk_cell BK139.out 0).trans rfl, (blk_cell BK139.out 1).trans rfl, (blk_cell BK139.out 2).trans rfl, (blk_cell BK139.out 3).trans rfl, (blk_cell BK160.out 0).trans rfl, (blk_cell BK160.out 1).trans rfl, (blk_cell BK160.out 2).trans rfl, (blk_cell BK160.out 3).trans rfl⟩ (fun hHeld => ?_)
           generalize w55.drew = w56 at BK139 BK145 BK150 BK159 BK160 HB hHeld ⊢
           refine take_ (i := 0) (N := some 28) (v := ?_) (a' := ?_) #[true, false, false, false, false, false, false] rfl rfl (by kernel_rfl) (fun _ _ _ h => h) (Or.inl ⟨by rfl, ?_⟩) hHeld ?_ ?_
           rotate_left
           ·rintro w' ⟨s0, s1, s2, s3, s4, s5, s6, s7⟩
            go_simp
            with_reducible rfl
           rotate_left
           ·simp only [Act.put, List.setIfInBounds_toArray, List.set_cons_zero, List.set_cons_succ, i64_w, i32_w]
            rfl
           refine take_ (i := 1) (N := some 29) (v := ?_) (a' := ?_) #[true, true, false, false, false, false, false] rfl rfl (by kernel_rfl) (fun _ _ _ h => h) (Or.inl ⟨by rfl, ?_⟩) hHeld ?_ ?_
           rotate_left
           ·rintro w' ⟨s0, s1, s2, s3, s4, s5, s6, s7⟩
            go_simp
            with_reducible rfl
           rotate_left
           ·simp only [Act.put, List.setIfInBounds_toArray, List.set_cons_zero, List.set_cons_succ, i64_w, i32_w]
            rfl
           refine take_ (i := 2) (N := some 30) (v := ?_) (a' := ?_) #[true, true, true, false, false, false, false] rfl rfl (by kernel_rfl) (fun _ _ _ h => h) (Or.inl ⟨by rfl, ?_⟩) hHeld ?_ ?_
           rotate_left
           ·rintro w' ⟨s0, s1, s2, s3, s4, s5, s6, s7⟩
            go_simp
            with_reducible rfl
           rotate_left
           ·simp only [Act.put, List.setIfInBounds_toArray, List.set_cons_zero, List.set_cons_succ, i64_w, i32_w]
            rfl
           refine join_ (σ := Nat) 1 #[true, true, true, true, true, true, false] (fun s_ => [(31, .agg #[.int .i64 t161, .int .i64 t162, .int .i64 t163, .int .i64 t164]), (32, .agg #[.int .i64 t165, .int .i64 t166, .int .i64 t167, .int .i64 t168]), (7, .pointer (some ⟨s_, 0, none⟩))]) (fun s_ w' => (w'.cell? ⟨gb139, 0, none⟩ = some (.int .i64 t135) ∧ w'.cell? ⟨gb139, 1, none⟩ = some (.int .i64 t136) ∧ w'.cell? ⟨gb139, 2, none⟩ = some (.int .i64 t137) ∧ w'.cell? ⟨gb139, 3, none⟩ = some (.int .i64 t138) ∧ w'.cell? ⟨gb160, 0, none⟩ = some (.int .i64 1) ∧ w'.cell? ⟨gb160, 1, none⟩ = some (.int .i64 5000) ∧ w'.cell? ⟨gb160, 2, none⟩ = some (.int .i64 5000) ∧ w'.cell? ⟨gb160, 3, none⟩ = some (.int .i64 0)) ∧ (w'.heap[gb139]? = some (.cells #[.int .i64 t135, .int .i64 t136, .int .i64 t137, .int .i64 t138] 23 (0, 0))) ∧ (w'.heap[gb145]? = some (.cells #[.int .i64 t140, .int .i64 t141, .int .i64 t142, .int .i64 t143] 25 (0, 0))) ∧ (w'.heap[gb150]? = some (.cells #[.int .i64 t146, .int .i64 t147, .int .i64 t148, .int .i64 t149] 25 (0, 0))) ∧ (w'.heap[gb159]? = some (.cells #[.int .i64 t155, .int .i64 t156, .int .i64 t157, .int .i64 t158] 25 (0, 0))) ∧ (w'.heap[gb160]? = some (.cells #[.int .i64 1, .int .i64 5000, .int .i64 5000, .int .i64 0] 25 (0, 0))) ∧ (w'.heap[s_]? = some (.cells #[.int .i64 0, .int .i64 0, .int .i64 0, .int .i64 0] 25 (0, 0))) ∧ (w.heap.size ≤ s_) ∧ (w.heap.size ≤ s_) ∧ (gb139 ≠ s_) ∧ (s_ ≠ gb139) ∧ (gb145 ≠ s_) ∧ (s_ ≠ gb145) ∧ (gb150 ≠ s_) ∧ (s_ ≠ gb150) ∧ (gb159 ≠ s_) ∧ (s_ ≠ gb159) ∧ (gb160 ≠ s_) ∧ (s_ ≠ gb160) ∧ (Below w.heap.size w w')) ?_ ?_
           rotate_left
           ·intro hCont
            refine two_ (i := 3) (j := 5) (Ni := some 31) (Nj := some 7) #[true, true, true, true, false, false, false] #[true, true, true, false, false, true, false] rfl rfl rfl rfl (by kernel_rfl) (by decide) (by decide) (fun K hK => ?_) (fun K hK => ?_)
            ·skip
             refine goes_ Try.func22 (by kernel_rfl) rfl #[.agg #[.int .i64 t135, .int .i64 t136, .int .i64 t137, .int .i64 t138], .agg #[.int .i64 1, .int .i64 5000, .int .i64 5000, .int .i64 0]] (by rfl) rfl rfl (by (try simp only [List.map_toArray, List.map_cons, List.map_nil]); first | done | rfl | (simp only [List.length_drop, List.length_take]; rfl)) ?_
             with_reducible refine (drive_Emergency.calls t135 t136 t137 t138 1 5000 5000 0 t161 t162 t163 t164 _ A6.out).mono ?_
             rintro e w57 ⟨rfl, hb⟩
             refine ⟨_, rfl, ?_⟩
             have n0_ := Aside0.mk (bb_ BK139.out hb)
             have n1_ := Aside0.mk (bb_ BK145.out hb)
             have n2_ := Aside0.mk (bb_ BK150.out hb)
             have n3_ := Aside0.mk (bb_ BK159.out hb)
             have n4_ := Aside0.mk (bb_ BK160.out hb)
             have n5_ := Aside0.mk (below_step (by repeat (first | (with_reducible first | exact HB.out | apply below_alloc | apply pw_below_drewN | apply below_drew1 | refine below_set ?_ GE139.out | refine below_set ?_ GE145.out | refine below_set ?_ GE150.out | refine below_set ?_ GE159.out | refine below_set ?_ GE160.out) | exact HB.out)) hb)
             clear BK139
             clear BK145
             clear BK150
             clear BK159
             clear BK160
             clear HB
             have BK139 := n0_
             have BK145 := n1_
             have BK150 := n2_
             have BK159 := n3_
             have BK160 := n4_
             have HB := n5_
             clear n0_ n1_ n2_ n3_ n4_ n5_
             (try clear hb)
             (try clear hb2)
             (try clear hk)
             (try clear hi)
             refine hK.out _ _ ⟨(blk_cell BK139.out 0).trans rfl, (blk_cell BK139.out 1).trans rfl, (blk_cell BK139.out 2).trans rfl, (blk_cell BK139.out 3).trans rfl, (blk_cell BK160.out 0).trans rfl, (blk_cell BK160.out 1).trans rfl, (blk_cell BK160.out 2).trans rfl, (blk_cell BK160.out 3).trans rfl⟩ (fun hHeld => ?_)
             clear hK K
             refine norm_ (a' := ?_) ?_ ?_
             rotate_left
             ·show Act.put _ (some 31) _ = _
              simp only [Act.put, List.setIfInBounds_toArray, List.set_cons_zero, List.set_cons_succ, i64_w, i32_w]
              rfl
             refine two_ (i := 4) (j := 5) (Ni := some 32) (Nj := some 7) #[true, true, true, true, true, false, false] #[true, true, true, true, false, true, false] rfl rfl rfl rfl (by kernel_rfl) (by decide) (by decide) (fun K hK => ?_) (fun K hK => ?_)
             ·skip
              refine goes_ Try.func24 (by kernel_rfl) rfl #[.agg #[.int .i64 t135, .int .i64 t136, .int .i64 t137, .int .i64 t138], .agg #[.int .i64 t161, .int .i64 t162, .int .i64 t163, .int .i64 t164], .int .i64 4] (by rfl) rfl rfl (by (try simp only [List.map_toArray, List.map_cons, List.map_nil]); first | done | rfl | (simp only [List.length_drop, List.length_take]; rfl)) ?_
              with_reducible refine (drive_Step.calls k t135 t136 t137 t138 t161 t162 t163 t164 4 t165 t166 t167 t168 _ A7.out).mono ?_
              rintro e w58 ⟨rfl, hb⟩
              refine ⟨_, rfl, ?_⟩
              have n0_ := Aside0.mk (bb_ BK139.out hb)
              have n1_ := Aside0.mk (bb_ BK145.out hb)
              have n2_ := Aside0.mk (bb_ BK150.out hb)
              have n3_ := Aside0.mk (bb_ BK159.out hb)
              have n4_ := Aside0.mk (bb_ BK160.out hb)
              have n5_ := Aside0.mk (below_step (by repeat (first | (with_reducible first | exact HB.out | apply below_alloc | apply pw_below_drewN | apply below_drew1 | refine below_set ?_ GE139.out | refine below_set ?_ GE145.out | refine below_set ?_ GE150.out | refine below_set ?_ GE159.out | refine below_set ?_ GE160.out) | exact HB.out)) hb)
              clear BK139
              clear BK145
              clear BK150
              clear BK159
              clear BK160
              clear HB
              have BK139 := n0_
              have BK145 := n1_
              have BK150 := n2_
              have BK159 := n3_
              have BK160 := n4_
              have HB := n5_
              clear n0_ n1_ n2_ n3_ n4_ n5_
              (try clear hb)
              (try clear hb2)
              (try clear hk)
              (try clear hi)
              refine hK.out _ _ ⟨(blk_cell BK139.out 0).trans rfl, (blk_cell BK139.out 1).trans rfl, (blk_cell BK139.out 2).trans rfl, (blk_cell BK139.out 3).trans rfl, (blk_cell BK160.out 0).trans rfl, (blk_cell BK160.out 1).trans rfl, (blk_cell BK160.out 2).trans rfl, (blk_cell BK160.out 3).trans rfl⟩ (fun hHeld => ?_)
              clear hK K
              refine norm_ (a' := ?_) ?_ ?_
              rotate_left
              ·show Act.put _ (some 32) _ = _
               simp only [Act.put, List.setIfInBounds_toArray, List.set_cons_zero, List.set_cons_succ, i64_w, i32_w]
               rfl
              refine one_ (i := 5) (N := some 7) #[true, true, true, true, true, true, false] rfl rfl (by kernel_rfl) (by decide) (fun K hK => ?_)
              refine box_step ?hg (N := 7) ?hd (cs := #[.int .i64 0, .int .i64 0, .int .i64 0, .int .i64 0]) (t := 25) ?hr ?_; (case hd => rfl); (case hg => rfl); (case hr => first | (go_simp; done) | (go_simp; rfl))
              intro gb169 hg w59 hbox hb
              have n0_ := Aside0.mk (bb_ BK139.out hb)
              have n1_ := Aside0.mk (bb_ BK145.out hb)
              have n2_ := Aside0.mk (bb_ BK150.out hb)
              have n3_ := Aside0.mk (bb_ BK159.out hb)
              have n4_ := Aside0.mk (bb_ BK160.out hb)
              have n5_ := Aside0.mk (below_step (by repeat (first | (with_reducible first | exact HB.out | apply below_alloc | apply pw_below_drewN | apply below_drew1 | refine below_set ?_ GE139.out | refine below_set ?_ GE145.out | refine below_set ?_ GE150.out | refine below_set ?_ GE159.out | refine below_set ?_ GE160.out) | exact HB.out)) hb)
              have n6_ := Aside0.mk (hbox)
              have n7_ := Aside0.mk ((by rw [hg]; exact (below_size (by repeat (first | (with_reducible first | exact HB.out | apply below_alloc | apply pw_below_drewN | apply below_drew1 | refine below_set ?_ GE139.out | refine below_set ?_ GE145.out | refine below_set ?_ GE150.out | refine below_set ?_ GE159.out | refine below_set ?_ GE160.out) | exact HB.out))) : w.heap.size ≤ gb169))
              have n8_ := Aside0.mk ((by rw [hg]; exact (below_size (by repeat (first | (with_reducible first | exact HB.out | apply below_alloc | apply pw_below_drewN | apply below_drew1 | refine below_set ?_ GE139.out | refine below_set ?_ GE145.out | refine below_set ?_ GE150.out | refine below_set ?_ GE159.out | refine below_set ?_ GE160.out) | exact HB.out))) : w.heap.size ≤ gb169))
              have n9_ := Aside0.mk ((by rw [hg]; exact Nat.ne_of_lt (blk_lt (g := gb139) (o := .cells #[.int .i64 t135, .int .i64 t136, .int .i64 t137, .int .i64 t138] 23 (0, 0)) (by (with_reducible repeat (first | refine blk_drewN ?_ _ | refine blk_drew ?_ | refine blk_alloc ?_ _)); exact BK139.out)) : gb139 ≠ gb169))
              have n10_ := Aside0.mk ((by rw [hg]; exact Nat.ne_of_gt (blk_lt (g := gb139) (o := .cells #[.int .i64 t135, .int .i64 t136, .int .i64 t137, .int .i64 t138] 23 (0, 0)) (by (with_reducible repeat (first | refine blk_drewN ?_ _ | refine blk_drew ?_ | refine blk_alloc ?_ _)); exact BK139.out)) : gb169 ≠ gb139))
              have n11_ := Aside0.mk ((by rw [hg]; exact Nat.ne_of_lt (blk_lt (g := gb145) (o := .cells #[.int .i64 t140, .int .i64 t141, .int .i64 t142, .int .i64 t143] 25 (0, 0)) (by (with_reducible repeat (first | refine blk_drewN ?_ _ | refine blk_drew ?_ | refine blk_alloc ?_ _)); exact BK145.out)) : gb145 ≠ gb169))
              have n12_ := Aside0.mk ((by rw [hg]; exact Nat.ne_of_gt (blk_lt (g := gb145) (o := .cells #[.int .i64 t140, .int .i64 t141, .int .i64 t142, .int .i64 t143] 25 (0, 0)) (by (with_reducible repeat (first | refine blk_drewN ?_ _ | refine blk_drew ?_ | refine blk_alloc ?_ _)); exact BK145.out)) : gb169 ≠ gb145))
              have n13_ := Aside0.mk ((by rw [hg]; exact Nat.ne_of_lt (blk_lt (g := gb150) (o := .cells #[.int .i64 t146, .int .i64 t147, .int .i64 t148, .int .i64 t149] 25 (0, 0)) (by (with_reducible repeat (first | refine blk_drewN ?_ _ | refine blk_drew ?_ | refine blk_alloc ?_ _)); exact BK150.out)) : gb150 ≠ gb169))
              have n14_ := Aside0.mk ((by rw [hg]; exact Nat.ne_of_gt (blk_lt (g := gb150) (o := .cells #[.int .i64 t146, .int .i64 t147, .int .i64 t148, .int .i64 t149] 25 (0, 0)) (by (with_reducible repeat (first | refine blk_drewN ?_ _ | refine blk_drew ?_ | refine blk_alloc ?_ _)); exact BK150.out)) : gb169 ≠ gb150))
              have n15_ := Aside0.mk ((by rw [hg]; exact Nat.ne_of_lt (blk_lt (g := gb159) (o := .cells #[.int .i64 t155, .int .i64 t156, .int .i64 t157, .int .i64 t158] 25 (0, 0)) (by (with_reducible repeat (first | refine blk_drewN ?_ _ | refine blk_drew ?_ | refine blk_alloc ?_ _)); exact BK159.out)) : gb159 ≠ gb169))
              have n16_ := Aside0.mk ((by rw [hg]; exact Nat.ne_of_gt (blk_lt (g := gb159) (o := .cells #[.int .i64 t155, .int .i64 t156, .int .i64 t157, .int .i64 t158] 25 (0, 0)) (by (with_reducible repeat (first | refine blk_drewN ?_ _ | refine blk_drew ?_ | refine blk_alloc ?_ _)); exact BK159.out)) : gb169 ≠ gb159))
              have n17_ := Aside0.mk ((by rw [hg]; exact Nat.ne_of_lt (blk_lt (g := gb160) (o := .cells #[.int .i64 1, .int .i64 5000, .int .i64 5000, .int .i64 0] 25 (0, 0)) (by (with_reducible repeat (first | refine blk_drewN ?_ _ | refine blk_drew ?_ | refine blk_alloc ?_ _)); exact BK160.out)) : gb160 ≠ gb169))
              have n18_ := Aside0.mk ((by rw [hg]; exact Nat.ne_of_gt (blk_lt (g := gb160) (o := .cells #[.int .i64 1, .int .i64 5000, .int .i64 5000, .int .i64 0] 25 (0, 0)) (by (with_reducible repeat (first | refine blk_drewN ?_ _ | refine blk_drew ?_ | refine blk_alloc ?_ _)); exact BK160.out)) : gb169 ≠ gb160))
              clear BK139
              clear BK145
              clear BK150
              clear BK159
              clear BK160
              clear HB
              have BK139 := n0_
              have BK145 := n1_
              have BK150 := n2_
              have BK159 := n3_
              have BK160 := n4_
              have HB := n5_
              have BK169 := n6_
              have GW169 := n7_
              have GE169 := n8_
              have NB139_169 := n9_
              have NB169_139 := n10_
              have NB145_169 := n11_
              have NB169_145 := n12_
              have NB150_169 := n13_
              have NB169_150 := n14_
              have NB159_169 := n15_
              have NB169_159 := n16_
              have NB160_169 := n17_
              have NB169_160 := n18_
              clear n0_ n1_ n2_ n3_ n4_ n5_ n6_ n7_ n8_ n9_ n10_ n11_ n12_ n13_ n14_ n15_ n16_ n17_ n18_
              clear hb hbox hg
              refine hK.out _ _ ⟨(blk_cell BK139.out 0).trans rfl, (blk_cell BK139.out 1).trans rfl, (blk_cell BK139.out 2).trans rfl, (blk_cell BK139.out 3).trans rfl, (blk_cell BK160.out 0).trans rfl, (blk_cell BK160.out 1).trans rfl, (blk_cell BK160.out 2).trans rfl, (blk_cell BK160.out 3).trans rfl⟩ (fun hHeld => ?_)
              clear hK K
              refine norm_ (a' := ?_) ?_ ?_
              rotate_left
              ·show Act.put _ (some 7) _ = _
               simp only [Act.put, List.setIfInBounds_toArray, List.set_cons_zero, List.set_cons_succ, i64_w, i32_w]
               rfl
              exact norm_ (by simp only [putAll, Act.put, List.setIfInBounds_toArray, List.set_cons_zero, List.set_cons_succ]) (hCont (gb169) _ ⟨hHeld, (by (with_reducible repeat (first | refine blk_drewN ?_ _ | refine blk_drew ?_ | refine blk_alloc ?_ _)); exact BK139.out), (by (with_reducible repeat (first | refine blk_drewN ?_ _ | refine blk_drew ?_ | refine blk_alloc ?_ _)); exact BK145.out), (by (with_reducible repeat (first | refine blk_drewN ?_ _ | refine blk_drew ?_ | refine blk_alloc ?_ _)); exact BK150.out), (by (with_reducible repeat (first | refine blk_drewN ?_ _ | refine blk_drew ?_ | refine blk_alloc ?_ _)); exact BK159.out), (by (with_reducible repeat (first | refine blk_drewN ?_ _ | refine blk_drew ?_ | refine blk_alloc ?_ _)); exact BK160.out), (by (with_reducible repeat (first | refine blk_drewN ?_ _ | refine blk_drew ?_ | refine blk_alloc ?_ _)); exact BK169.out), GW169.out, GE169.out, NB139_169.out, NB169_139.out, NB145_169.out, NB169_145.out, NB150_169.out, NB169_150.out, NB159_169.out, NB169_159.out, NB160_169.out, NB169_160.out, (by repeat (first | (with_reducible first | exact HB.out | apply below_alloc | apply pw_below_drewN | apply below_drew1 | refine below_set ?_ GE139.out | refine below_set ?_ GE145.out | refine below_set ?_ GE150.out | refine below_set ?_ GE159.out | refine below_set ?_ GE160.out | refine below_set ?_ GE169.out) | exact HB.out))⟩)
             ·skip
              refine box_step ?hg (N := 7) ?hd (cs := #[.int .i64 0, .int .i64 0, .int .i64 0, .int .i64 0]) (t := 25) ?hr ?_; (case hd => rfl); (case hg => rfl); (case hr => first | (go_simp; done) | (go_simp; rfl))
              intro gb169 hg w58 hbox hb
              have n0_ := Aside0.mk (bb_ BK139.out hb)
              have n1_ := Aside0.mk (bb_ BK145.out hb)
              have n2_ := Aside0.mk (bb_ BK150.out hb)
              have n3_ := Aside0.mk (bb_ BK159.out hb)
              have n4_ := Aside0.mk (bb_ BK160.out hb)
              have n5_ := Aside0.mk (below_step (by repeat (first | (with_reducible first | exact HB.out | apply below_alloc | apply pw_below_drewN | apply below_drew1 | refine below_set ?_ GE139.out | refine below_set ?_ GE145.out | refine below_set ?_ GE150.out | refine below_set ?_ GE159.out | refine below_set ?_ GE160.out) | exact HB.out)) hb)
              have n6_ := Aside0.mk (hbox)
              have n7_ := Aside0.mk ((by rw [hg]; exact (below_size (by repeat (first | (with_reducible first | exact HB.out | apply below_alloc | apply pw_below_drewN | apply below_drew1 | refine below_set ?_ GE139.out | refine below_set ?_ GE145.out | refine below_set ?_ GE150.out | refine below_set ?_ GE159.out | refine below_set ?_ GE160.out) | exact HB.out))) : w.heap.size ≤ gb169))
              have n8_ := Aside0.mk ((by rw [hg]; exact (below_size (by repeat (first | (with_reducible first | exact HB.out | apply below_alloc | apply pw_below_drewN | apply below_drew1 | refine below_set ?_ GE139.out | refine below_set ?_ GE145.out | refine below_set ?_ GE150.out | refine below_set ?_ GE159.out | refine below_set ?_ GE160.out) | exact HB.out))) : w.heap.size ≤ gb169))
              have n9_ := Aside0.mk ((by rw [hg]; exact Nat.ne_of_lt (blk_lt (g := gb139) (o := .cells #[.int .i64 t135, .int .i64 t136, .int .i64 t137, .int .i64 t138] 23 (0, 0)) (by (with_reducible repeat (first | refine blk_drewN ?_ _ | refine blk_drew ?_ | refine blk_alloc ?_ _)); exact BK139.out)) : gb139 ≠ gb169))
              have n10_ := Aside0.mk ((by rw [hg]; exact Nat.ne_of_gt (blk_lt (g := gb139) (o := .cells #[.int .i64 t135, .int .i64 t136, .int .i64 t137, .int .i64 t138] 23 (0, 0)) (by (with_reducible repeat (first | refine blk_drewN ?_ _ | refine blk_drew ?_ | refine blk_alloc ?_ _)); exact BK139.out)) : gb169 ≠ gb139))
              have n11_ := Aside0.mk ((by rw [hg]; exact Nat.ne_of_lt (blk_lt (g := gb145) (o := .cells #[.int .i64 t140, .int .i64 t141, .int .i64 t142, .int .i64 t143] 25 (0, 0)) (by (with_reducible repeat (first | refine blk_drewN ?_ _ | refine blk_drew ?_ | refine blk_alloc ?_ _)); exact BK145.out)) : gb145 ≠ gb169))
              have n12_ := Aside0.mk ((by rw [hg]; exact Nat.ne_of_gt (blk_lt (g := gb145) (o := .cells #[.int .i64 t140, .int .i64 t141, .int .i64 t142, .int .i64 t143] 25 (0, 0)) (by (with_reducible repeat (first | refine blk_drewN ?_ _ | refine blk_drew ?_ | refine blk_alloc ?_ _)); exact BK145.out)) : gb169 ≠ gb145))
              have n13_ := Aside0.mk ((by rw [hg]; exact Nat.ne_of_lt (blk_lt (g := gb150) (o := .cells #[.int .i64 t146, .int .i64 t147, .int .i64 t148, .int .i64 t149] 25 (0, 0)) (by (with_reducible repeat (first | refine blk_drewN ?_ _ | refine blk_drew ?_ | refine blk_alloc ?_ _)); exact BK150.out)) : gb150 ≠ gb169))
              have n14_ := Aside0.mk ((by rw [hg]; exact Nat.ne_of_gt (blk_lt (g := gb150) (o := .cells #[.int .i64 t146, .int .i64 t147, .int .i64 t148, .int .i64 t149] 25 (0, 0)) (by (with_reducible repeat (first | refine blk_drewN ?_ _ | refine blk_drew ?_ | refine blk_alloc ?_ _)); exact BK150.out)) : gb169 ≠ gb150))
              have n15_ := Aside0.mk ((by rw [hg]; exact Nat.ne_of_lt (blk_lt (g := gb159) (o := .cells #[.int .i64 t155, .int .i64 t156, .int .i64 t157, .int .i64 t158] 25 (0, 0)) (by (with_reducible repeat (first | refine blk_drewN ?_ _ | refine blk_drew ?_ | refine blk_alloc ?_ _)); exact BK159.out)) : gb159 ≠ gb169))
              have n16_ := Aside0.mk ((by rw [hg]; exact Nat.ne_of_gt (blk_lt (g := gb159) (o := .cells #[.int .i64 t155, .int .i64 t156, .int .i64 t157, .int .i64 t158] 25 (0, 0)) (by (with_reducible repeat (first | refine blk_drewN ?_ _ | refine blk_drew ?_ | refine blk_alloc ?_ _)); exact BK159.out)) : gb169 ≠ gb159))
              have n17_ := Aside0.mk ((by rw [hg]; exact Nat.ne_of_lt (blk_lt (g := gb160) (o := .cells #[.int .i64 1, .int .i64 5000, .int .i64 5000, .int .i64 0] 25 (0, 0)) (by (with_reducible repeat (first | refine blk_drewN ?_ _ | refine blk_drew ?_ | refine blk_alloc ?_ _)); exact BK160.out)) : gb160 ≠ gb169))
              have n18_ := Aside0.mk ((by rw [hg]; exact Nat.ne_of_gt (blk_lt (g := gb160) (o := .cells #[.int .i64 1, .int .i64 5000, .int .i64 5000, .int .i64 0] 25 (0, 0)) (by (with_reducible repeat (first | refine blk_drewN ?_ _ | refine blk_drew ?_ | refine blk_alloc ?_ _)); exact BK160.out)) : gb169 ≠ gb160))
              clear BK139
              clear BK145
              clear BK150
              clear BK159
              clear BK160
              clear HB
              have BK139 := n0_
              have BK145 := n1_
              have BK150 := n2_
              have BK159 := n3_
              have BK160 := n4_
              have HB := n5_
              have BK169 := n6_
              have GW169 := n7_
              have GE169 := n8_
              have NB139_169 := n9_
              have NB169_139 := n10_
              have NB145_169 := n11_
              have NB169_145 := n12_
              have NB150_169 := n13_
              have NB169_150 := n14_
              have NB159_169 := n15_
              have NB169_159 := n16_
              have NB160_169 := n17_
              have NB169_160 := n18_
              clear n0_ n1_ n2_ n3_ n4_ n5_ n6_ n7_ n8_ n9_ n10_ n11_ n12_ n13_ n14_ n15_ n16_ n17_ n18_
              clear hb hbox hg
              refine hK.out _ _ ⟨(blk_cell BK139.out 0).trans rfl, (blk_cell BK139.out 1).trans rfl, (blk_cell BK139.out 2).trans rfl, (blk_cell BK139.out 3).trans rfl, (blk_cell BK160.out 0).trans rfl, (blk_cell BK160.out 1).trans rfl, (blk_cell BK160.out 2).trans rfl, (blk_cell BK160.out 3).trans rfl⟩ (fun hHeld => ?_)
              clear hK K
              refine norm_ (a' := ?_) ?_ ?_
              rotate_left
              ·show Act.put _ (some 7) _ = _
               simp only [Act.put, List.setIfInBounds_toArray, List.set_cons_zero, List.set_cons_succ, i64_w, i32_w]
               rfl
              refine one_ (i := 4) (N := some 32) #[true, true, true, true, true, true, false] rfl rfl (by kernel_rfl) (by decide) (fun K hK => ?_)
              refine goes_ Try.func24 (by kernel_rfl) rfl #[.agg #[.int .i64 t135, .int .i64 t136, .int .i64 t137, .int .i64 t138], .agg #[.int .i64 t161, .int .i64 t162, .int .i64 t163, .int .i64 t164], .int .i64 4] (by rfl) rfl rfl (by (try simp only [List.map_toArray, List.map_cons, List.map_nil]); first | done | rfl | (simp only [List.length_drop, List.length_take]; rfl)) ?_
              with_reducible refine (drive_Step.calls k t135 t136 t137 t138 t161 t162 t163 t164 4 t165 t166 t167 t168 _ A7.out).mono ?_
              rintro e w59 ⟨rfl, hb⟩
              refine ⟨_, rfl, ?_⟩
              have n0_ := Aside0.mk (bb_ BK139.out hb)
              have n1_ := Aside0.mk (bb_ BK145.out hb)
              have n2_ := Aside0.mk (bb_ BK150.out hb)
              have n3_ := Aside0.mk (bb_ BK159.out hb)
              have n4_ := Aside0.mk (bb_ BK160.out hb)
              have n5_ := Aside0.mk (bb_ BK169.out hb)
              have n6_ := Aside0.mk (below_step (by repeat (first | (with_reducible first | exact HB.out | apply below_alloc | apply pw_below_drewN | apply below_drew1 | refine below_set ?_ GE139.out | refine below_set ?_ GE145.out | refine below_set ?_ GE150.out | refine below_set ?_ GE159.out | refine below_set ?_ GE160.out | refine below_set ?_ GE169.out) | exact HB.out)) hb)
              clear BK139
              clear BK145
              clear BK150
              clear BK159
              clear BK160
              clear BK169
              clear HB
              have BK139 := n0_
              have BK145 := n1_
              have BK150 := n2_
              have BK159 := n3_
              have BK160 := n4_
              have BK169 := n5_
              have HB := n6_
              clear n0_ n1_ n2_ n3_ n4_ n5_ n6_
              (try clear hb)
              (try clear hb2)
              (try clear hk)
              (try clear hi)
              refine hK.out _ _ ⟨(blk_cell BK139.out 0).trans rfl, (blk_cell BK139.out 1).trans rfl, (blk_cell BK139.out 2).trans rfl, (blk_cell BK139.out 3).trans rfl, (blk_cell BK160.out 0).trans rfl, (blk_cell BK160.out 1).trans rfl, (blk_cell BK160.out 2).trans rfl, (blk_cell BK160.out 3).trans rfl⟩ (fun hHeld => ?_)
              clear hK K
              refine norm_ (a' := ?_) ?_ ?_
              rotate_left
              ·show Act.put _ (some 32) _ = _
               simp only [Act.put, List.setIfInBounds_toArray, List.set_cons_zero, List.set_cons_succ, i64_w, i32_w]
               rfl
              exact norm_ (by simp only [putAll, Act.put, List.setIfInBounds_toArray, List.set_cons_zero, List.set_cons_succ]) (hCont (gb169) _ ⟨hHeld, (by (with_reducible repeat (first | refine blk_drewN ?_ _ | refine blk_drew ?_ | refine blk_alloc ?_ _)); exact BK139.out), (by (with_reducible repeat (first | refine blk_drewN ?_ _ | refine blk_drew ?_ | refine blk_alloc ?_ _)); exact BK145.out), (by (with_reducible repeat (first | refine blk_drewN ?_ _ | refine blk_drew ?_ | refine blk_alloc ?_ _)); exact BK150.out), (by (with_reducible repeat (first | refine blk_drewN ?_ _ | refine blk_drew ?_ | refine blk_alloc ?_ _)); exact BK159.out), (by (with_reducible repeat (first | refine blk_drewN ?_ _ | refine blk_drew ?_ | refine blk_alloc ?_ _)); exact BK160.out), (by (with_reducible repeat (first | refine blk_drewN ?_ _ | refine blk_drew ?_ | refine blk_alloc ?_ _)); exact BK169.out), GW169.out, GE169.out, NB139_169.out, NB169_139.out, NB145_169.out, NB169_145.out, NB150_169.out, NB169_150.out, NB159_169.out, NB169_159.out, NB160_169.out, NB169_160.out, (by repeat (first | (with_reducible first | exact HB.out | apply below_alloc | apply pw_below_drewN | apply below_drew1 | refine below_set ?_ GE139.out | refine below_set ?_ GE145.out | refine below_set ?_ GE150.out | refine below_set ?_ GE159.out | refine below_set ?_ GE160.out | refine below_set ?_ GE169.out) | exact HB.out))⟩)
            ·skip
             refine box_step ?hg (N := 7) ?hd (cs := #[.int .i64 0, .int .i64 0, .int .i64 0, .int .i64 0]) (t := 25) ?hr ?_; (case hd => rfl); (case hg => rfl); (case hr => first | (go_simp; done) | (go_simp; rfl))
             intro gb169 hg w57 hbox hb
             have n0_ := Aside0.mk (bb_ BK139.out hb)
             have n1_ := Aside0.mk (bb_ BK145.out hb)
             have n2_ := Aside0.mk (bb_ BK150.out hb)
             have n3_ := Aside0.mk (bb_ BK159.out hb)
             have n4_ := Aside0.mk (bb_ BK160.out hb)
             have n5_ := Aside0.mk (below_step (by repeat (first | (with_reducible first | exact HB.out | apply below_alloc | apply pw_below_drewN | apply below_drew1 | refine below_set ?_ GE139.out | refine below_set ?_ GE145.out | refine below_set ?_ GE150.out | refine below_set ?_ GE159.out | refine below_set ?_ GE160.out) | exact HB.out)) hb)
             have n6_ := Aside0.mk (hbox)
             have n7_ := Aside0.mk ((by rw [hg]; exact (below_size (by repeat (first | (with_reducible first | exact HB.out | apply below_alloc | apply pw_below_drewN | apply below_drew1 | refine below_set ?_ GE139.out | refine below_set ?_ GE145.out | refine below_set ?_ GE150.out | refine below_set ?_ GE159.out | refine below_set ?_ GE160.out) | exact HB.out))) : w.heap.size ≤ gb169))
             have n8_ := Aside0.mk ((by rw [hg]; exact (below_size (by repeat (first | (with_reducible first | exact HB.out | apply below_alloc | apply pw_below_drewN | apply below_drew1 | refine below_set ?_ GE139.out | refine below_set ?_ GE145.out | refine below_set ?_ GE150.out | refine below_set ?_ GE159.out | refine below_set ?_ GE160.out) | exact HB.out))) : w.heap.size ≤ gb169))
             have n9_ := Aside0.mk ((by rw [hg]; exact Nat.ne_of_lt (blk_lt (g := gb139) (o := .cells #[.int .i64 t135, .int .i64 t136, .int .i64 t137, .int .i64 t138] 23 (0, 0)) (by (with_reducible repeat (first | refine blk_drewN ?_ _ | refine blk_drew ?_ | refine blk_alloc ?_ _)); exact BK139.out)) : gb139 ≠ gb169))
             have n10_ := Aside0.mk ((by rw [hg]; exact Nat.ne_of_gt (blk_lt (g := gb139) (o := .cells #[.int .i64 t135, .int .i64 t136, .int .i64 t137, .int .i64 t138] 23 (0, 0)) (by (with_reducible repeat (first | refine blk_drewN ?_ _ | refine blk_drew ?_ | refine blk_alloc ?_ _)); exact BK139.out)) : gb169 ≠ gb139))
             have n11_ := Aside0.mk ((by rw [hg]; exact Nat.ne_of_lt (blk_lt (g := gb145) (o := .cells #[.int .i64 t140, .int .i64 t141, .int .i64 t142, .int .i64 t143] 25 (0, 0)) (by (with_reducible repeat (first | refine blk_drewN ?_ _ | refine blk_drew ?_ | refine blk_alloc ?_ _)); exact BK145.out)) : gb145 ≠ gb169))
             have n12_ := Aside0.mk ((by rw [hg]; exact Nat.ne_of_gt (blk_lt (g := gb145) (o := .cells #[.int .i64 t140, .int .i64 t141, .int .i64 t142, .int .i64 t143] 25 (0, 0)) (by (with_reducible repeat (first | refine blk_drewN ?_ _ | refine blk_drew ?_ | refine blk_alloc ?_ _)); exact BK145.out)) : gb169 ≠ gb145))
             have n13_ := Aside0.mk ((by rw [hg]; exact Nat.ne_of_lt (blk_lt (g := gb150) (o := .cells #[.int .i64 t146, .int .i64 t147, .int .i64 t148, .int .i64 t149] 25 (0, 0)) (by (with_reducible repeat (first | refine blk_drewN ?_ _ | refine blk_drew ?_ | refine blk_alloc ?_ _)); exact BK150.out)) : gb150 ≠ gb169))
             have n14_ := Aside0.mk ((by rw [hg]; exact Nat.ne_of_gt (blk_lt (g := gb150) (o := .cells #[.int .i64 t146, .int .i64 t147, .int .i64 t148, .int .i64 t149] 25 (0, 0)) (by (with_reducible repeat (first | refine blk_drewN ?_ _ | refine blk_drew ?_ | refine blk_alloc ?_ _)); exact BK150.out)) : gb169 ≠ gb150))
             have n15_ := Aside0.mk ((by rw [hg]; exact Nat.ne_of_lt (blk_lt (g := gb159) (o := .cells #[.int .i64 t155, .int .i64 t156, .int .i64 t157, .int .i64 t158] 25 (0, 0)) (by (with_reducible repeat (first | refine blk_drewN ?_ _ | refine blk_drew ?_ | refine blk_alloc ?_ _)); exact BK159.out)) : gb159 ≠ gb169))
             have n16_ := Aside0.mk ((by rw [hg]; exact Nat.ne_of_gt (blk_lt (g := gb159) (o := .cells #[.int .i64 t155, .int .i64 t156, .int .i64 t157, .int .i64 t158] 25 (0, 0)) (by (with_reducible repeat (first | refine blk_drewN ?_ _ | refine blk_drew ?_ | refine blk_alloc ?_ _)); exact BK159.out)) : gb169 ≠ gb159))
             have n17_ := Aside0.mk ((by rw [hg]; exact Nat.ne_of_lt (blk_lt (g := gb160) (o := .cells #[.int .i64 1, .int .i64 5000, .int .i64 5000, .int .i64 0] 25 (0, 0)) (by (with_reducible repeat (first | refine blk_drewN ?_ _ | refine blk_drew ?_ | refine blk_alloc ?_ _)); exact BK160.out)) : gb160 ≠ gb169))
             have n18_ := Aside0.mk ((by rw [hg]; exact Nat.ne_of_gt (blk_lt (g := gb160) (o := .cells #[.int .i64 1, .int .i64 5000, .int .i64 5000, .int .i64 0] 25 (0, 0)) (by (with_reducible repeat (first | refine blk_drewN ?_ _ | refine blk_drew ?_ | refine blk_alloc ?_ _)); exact BK160.out)) : gb169 ≠ gb160))
             clear BK139
             clear BK145
             clear BK150
             clear BK159
             clear BK160
             clear HB
             have BK139 := n0_
             have BK145 := n1_
             have BK150 := n2_
             have BK159 := n3_
             have BK160 := n4_
             have HB := n5_
             have BK169 := n6_
             have GW169 := n7_
             have GE169 := n8_
             have NB139_169 := n9_
             have NB169_139 := n10_
             have NB145_169 := n11_
             have NB169_145 := n12_
             have NB150_169 := n13_
             have NB169_150 := n14_
             have NB159_169 := n15_
             have NB169_159 := n16_
             have NB160_169 := n17_
             have NB169_160 := n18_
             clear n0_ n1_ n2_ n3_ n4_ n5_ n6_ n7_ n8_ n9_ n10_ n11_ n12_ n13_ n14_ n15_ n16_ n17_ n18_
             clear hb hbox hg
             refine hK.out _ _ ⟨(blk_cell BK139.out 0).trans rfl, (blk_cell BK139.out 1).trans rfl, (blk_cell BK139.out 2).trans rfl, (blk_cell BK139.out 3).trans rfl, (blk_cell BK160.out 0).trans rfl, (blk_cell BK160.out 1).trans rfl, (blk_cell BK160.out 2).trans rfl, (blk_cell BK160.out 3).trans rfl⟩ (fun hHeld => ?_)
             clear hK K
             refine norm_ (a' := ?_) ?_ ?_
             rotate_left
             ·show Act.put _ (some 7) _ = _
              simp only [Act.put, List.setIfInBounds_toArray, List.set_cons_zero, List.set_cons_succ, i64_w, i32_w]
              rfl
             refine one_ (i := 3) (N := some 31) #[true, true, true, true, false, true, false] rfl rfl (by kernel_rfl) (by decide) (fun K hK => ?_)
             refine goes_ Try.func22 (by kernel_rfl) rfl #[.agg #[.int .i64 t135, .int .i64 t136, .int .i64 t137, .int .i64 t138], .agg #[.int .i64 1, .int .i64 5000, .int .i64 5000, .int .i64 0]] (by rfl) rfl rfl (by (try simp only [List.map_toArray, List.map_cons, List.map_nil]); first | done | rfl | (simp only [List.length_drop, List.length_take]; rfl)) ?_
             with_reducible refine (drive_Emergency.calls t135 t136 t137 t138 1 5000 5000 0 t161 t162 t163 t164 _ A6.out).mono ?_
             rintro e w58 ⟨rfl, hb⟩
             refine ⟨_, rfl, ?_⟩
             have n0_ := Aside0.mk (bb_ BK139.out hb)
             have n1_ := Aside0.mk (bb_ BK145.out hb)
             have n2_ := Aside0.mk (bb_ BK150.out hb)
             have n3_ := Aside0.mk (bb_ BK159.out hb)
             have n4_ := Aside0.mk (bb_ BK160.out hb)
             have n5_ := Aside0.mk (bb_ BK169.out hb)
             have n6_ := Aside0.mk (below_step (by repeat (first | (with_reducible first | exact HB.out | apply below_alloc | apply pw_below_drewN | apply below_drew1 | refine below_set ?_ GE139.out | refine below_set ?_ GE145.out | refine below_set ?_ GE150.out | refine below_set ?_ GE159.out | refine below_set ?_ GE160.out | refine below_set ?_ GE169.out) | exact HB.out)) hb)
             clear BK139
             clear BK145
             clear BK150
             clear BK159
             clear BK160
             clear BK169
             clear HB
             have BK139 := n0_
             have BK145 := n1_
             have BK150 := n2_
             have BK159 := n3_
             have BK160 := n4_
             have BK169 := n5_
             have HB := n6_
             clear n0_ n1_ n2_ n3_ n4_ n5_ n6_
             (try clear hb)
             (try clear hb2)
             (try clear hk)
             (try clear hi)
             refine hK.out _ _ ⟨(blk_cell BK139.out 0).trans rfl, (blk_cell BK139.out 1).trans rfl, (blk_cell BK139.out 2).trans rfl, (blk_cell BK139.out 3).trans rfl, (blk_cell BK160.out 0).trans rfl, (blk_cell BK160.out 1).trans rfl, (blk_cell BK160.out 2).trans rfl, (blk_cell BK160.out 3).trans rfl⟩ (fun hHeld => ?_)
             clear hK K
             refine norm_ (a' := ?_) ?_ ?_
             rotate_left
             ·show Act.put _ (some 31) _ = _
              simp only [Act.put, List.setIfInBounds_toArray, List.set_cons_zero, List.set_cons_succ, i64_w, i32_w]
              rfl
             refine one_ (i := 4) (N := some 32) #[true, true, true, true, true, true, false] rfl rfl (by kernel_rfl) (by decide) (fun K hK => ?_)
             refine goes_ Try.func24 (by kernel_rfl) rfl #[.agg #[.int .i64 t135, .int .i64 t136, .int .i64 t137, .int .i64 t138], .agg #[.int .i64 t161, .int .i64 t162, .int .i64 t163, .int .i64 t164], .int .i64 4] (by rfl) rfl rfl (by (try simp only [List.map_toArray, List.map_cons, List.map_nil]); first | done | rfl | (simp only [List.length_drop, List.length_take]; rfl)) ?_
             with_reducible refine (drive_Step.calls k t135 t136 t137 t138 t161 t162 t163 t164 4 t165 t166 t167 t168 _ A7.out).mono ?_
             rintro e w59 ⟨rfl, hb⟩
             refine ⟨_, rfl, ?_⟩
             have n0_ := Aside0.mk (bb_ BK139.out hb)
             have n1_ := Aside0.mk (bb_ BK145.out hb)
             have n2_ := Aside0.mk (bb_ BK150.out hb)
             have n3_ := Aside0.mk (bb_ BK159.out hb)
             have n4_ := Aside0.mk (bb_ BK160.out hb)
             have n5_ := Aside0.mk (bb_ BK169.out hb)
             have n6_ := Aside0.mk (below_step (by repeat (first | (with_reducible first | exact HB.out | apply below_alloc | apply pw_below_drewN | apply below_drew1 | refine below_set ?_ GE139.out | refine below_set ?_ GE145.out | refine below_set ?_ GE150.out | refine below_set ?_ GE159.out | refine below_set ?_ GE160.out | refine below_set ?_ GE169.out) | exact HB.out)) hb)
             clear BK139
             clear BK145
             clear BK150
             clear BK159
             clear BK160
             clear BK169
             clear HB
             have BK139 := n0_
             have BK145 := n1_
             have BK150 := n2_
             have BK159 := n3_
             have BK160 := n4_
             have BK169 := n5_
             have HB := n6_
             clear n0_ n1_ n2_ n3_ n4_ n5_ n6_
             (try clear hb)
             (try clear hb2)
             (try clear hk)
             (try clear hi)
             refine hK.out _ _ ⟨(blk_cell BK139.out 0).trans rfl, (blk_cell BK139.out 1).trans rfl, (blk_cell BK139.out 2).trans rfl, (blk_cell BK139.out 3).trans rfl, (blk_cell BK160.out 0).trans rfl, (blk_cell BK160.out 1).trans rfl, (blk_cell BK160.out 2).trans rfl, (blk_cell BK160.out 3).trans rfl⟩ (fun hHeld => ?_)
             clear hK K
             refine norm_ (a' := ?_) ?_ ?_
             rotate_left
             ·show Act.put _ (some 32) _ = _
              simp only [Act.put, List.setIfInBounds_toArray, List.set_cons_zero, List.set_cons_succ, i64_w, i32_w]
              rfl
             exact norm_ (by simp only [putAll, Act.put, List.setIfInBounds_toArray, List.set_cons_zero, List.set_cons_succ]) (hCont (gb169) _ ⟨hHeld, (by (with_reducible repeat (first | refine blk_drewN ?_ _ | refine blk_drew ?_ | refine blk_alloc ?_ _)); exact BK139.out), (by (with_reducible repeat (first | refine blk_drewN ?_ _ | refine blk_drew ?_ | refine blk_alloc ?_ _)); exact BK145.out), (by (with_reducible repeat (first | refine blk_drewN ?_ _ | refine blk_drew ?_ | refine blk_alloc ?_ _)); exact BK150.out), (by (with_reducible repeat (first | refine blk_drewN ?_ _ | refine blk_drew ?_ | refine blk_alloc ?_ _)); exact BK159.out), (by (with_reducible repeat (first | refine blk_drewN ?_ _ | refine blk_drew ?_ | refine blk_alloc ?_ _)); exact BK160.out), (by (with_reducible repeat (first | refine blk_drewN ?_ _ | refine blk_drew ?_ | refine blk_alloc ?_ _)); exact BK169.out), GW169.out, GE169.out, NB139_169.out, NB169_139.out, NB145_169.out, NB169_145.out, NB150_169.out, NB169_150.out, NB159_169.out, NB169_159.out, NB160_169.out, NB169_160.out, (by repeat (first | (with_reducible first | exact HB.out | apply below_alloc | apply pw_below_drewN | apply below_drew1 | refine below_set ?_ GE139.out | refine below_set ?_ GE145.out | refine below_set ?_ GE150.out | refine below_set ?_ GE159.out | refine below_set ?_ GE160.out | refine below_set ?_ GE169.out) | exact HB.out))⟩)
           rintro gb169 w60 ⟨hS_, h0_, h1_, h2_, h3_, h4_, h5_, h6_, h7_, h8_, h9_, h10_, h11_, h12_, h13_, h14_, h15_, h16_, h17_, h18_⟩
           have n0_ : Aside0 (w60.heap[gb139]? = some (.cells #[.int .i64 t135, .int .i64 t136, .int .i64 t137, .int .i64 t138] 23 (0, 0))) := ⟨h0_⟩
           have n1_ : Aside0 (w60.heap[gb145]? = some (.cells #[.int .i64 t140, .int .i64 t141, .int .i64 t142, .int .i64 t143] 25 (0, 0))) := ⟨h1_⟩
           have n2_ : Aside0 (w60.heap[gb150]? = some (.cells #[.int .i64 t146, .int .i64 t147, .int .i64 t148, .int .i64 t149] 25 (0, 0))) := ⟨h2_⟩
           have n3_ : Aside0 (w60.heap[gb159]? = some (.cells #[.int .i64 t155, .int .i64 t156, .int .i64 t157, .int .i64 t158] 25 (0, 0))) := ⟨h3_⟩
           have n4_ : Aside0 (w60.heap[gb160]? = some (.cells #[.int .i64 1, .int .i64 5000, .int .i64 5000, .int .i64 0] 25 (0, 0))) := ⟨h4_⟩
           have n5_ : Aside0 (w60.heap[gb169]? = some (.cells #[.int .i64 0, .int .i64 0, .int .i64 0, .int .i64 0] 25 (0, 0))) := ⟨h5_⟩
           have n6_ : Aside0 (w.heap.size ≤ gb169) := ⟨h6_⟩
           have n7_ : Aside0 (w.heap.size ≤ gb169) := ⟨h7_⟩
           have n8_ : Aside0 (gb139 ≠ gb169) := ⟨h8_⟩
           have n9_ : Aside0 (gb169 ≠ gb139) := ⟨h9_⟩
           have n10_ : Aside0 (gb145 ≠ gb169) := ⟨h10_⟩
           have n11_ : Aside0 (gb169 ≠ gb145) := ⟨h11_⟩
           have n12_ : Aside0 (gb150 ≠ gb169) := ⟨h12_⟩
           have n13_ : Aside0 (gb169 ≠ gb150) := ⟨h13_⟩
           have n14_ : Aside0 (gb159 ≠ gb169) := ⟨h14_⟩
           have n15_ : Aside0 (gb169 ≠ gb159) := ⟨h15_⟩
           have n16_ : Aside0 (gb160 ≠ gb169) := ⟨h16_⟩
           have n17_ : Aside0 (gb169 ≠ gb160) := ⟨h17_⟩
           have n18_ : Aside0 (Below w.heap.size w w60) := ⟨h18_⟩
           clear BK139
           clear BK145
           clear BK150
           clear BK159
           clear BK160
           clear HB
           clear h0_ h1_ h2_ h3_ h4_ h5_ h6_ h7_ h8_ h9_ h10_ h11_ h12_ h13_ h14_ h15_ h16_ h17_ h18_
           have BK139 := n0_
           have BK145 := n1_
           have BK150 := n2_
           have BK159 := n3_
           have BK160 := n4_
           have BK169 := n5_
           have GW169 := n6_
           have GE169 := n7_
           have NB139_169 := n8_
           have NB169_139 := n9_
           have NB145_169 := n10_
           have NB169_145 := n11_
           have NB150_169 := n12_
           have NB169_150 := n13_
           have NB159_169 := n14_
           have NB169_159 := n15_
           have NB160_169 := n16_
           have NB169_160 := n17_
           have HB := n18_
           clear n0_ n1_ n2_ n3_ n4_ n5_ n6_ n7_ n8_ n9_ n10_ n11_ n12_ n13_ n14_ n15_ n16_ n17_ n18_
           have hHeld : w60.cell? ⟨gb139, 0, none⟩ = some (.int .i64 t135) ∧ w60.cell? ⟨gb139, 1, none⟩ = some (.int .i64 t136) ∧ w60.cell? ⟨gb139, 2, none⟩ = some (.int .i64 t137) ∧ w60.cell? ⟨gb139, 3, none⟩ = some (.int .i64 t138) ∧ w60.cell? ⟨gb160, 0, none⟩ = some (.int .i64 1) ∧ w60.cell? ⟨gb160, 1, none⟩ = some (.int .i64 5000) ∧ w60.cell? ⟨gb160, 2, none⟩ = some (.int .i64 5000) ∧ w60.cell? ⟨gb160, 3, none⟩ = some (.int .i64 0) := hS_
           refine norm_ (a' := ?_) ?_ ?_
           rotate_left
           ·simp only [putAll, Act.put, List.setIfInBounds_toArray, List.set_cons_zero, List.set_cons_succ]
            rfl
           refine one_ (i := 6) (N := none) #[true, true, true, true, true, true, true] rfl rfl (by kernel_rfl) (by decide) (fun K hK => ?_)
           have hs61 : w60.cell? ⟨gb169, 0, none⟩ = some (.int .i64 0) := (blk_cell BK169.out 0).trans rfl
           have hfs61 := blk_frozen BK169.out 0
           have hns61_0 := NB139_169.out
           have hns61_1 := NB145_169.out
           have hns61_2 := NB150_169.out
           have hns61_3 := NB159_169.out
           have hns61_4 := NB160_169.out
           have hms61_0 := NB169_139.out
           have hms61_1 := NB169_145.out
           have hms61_2 := NB169_150.out
           have hms61_3 := NB169_159.out
           have hms61_4 := NB169_160.out
           have hs62 : w60.cell? ⟨gb169, 1, none⟩ = some (.int .i64 0) := (blk_cell BK169.out 1).trans rfl
           have hfs62 := blk_frozen BK169.out 1
           have hns62_0 := NB139_169.out
           have hns62_1 := NB145_169.out
           have hns62_2 := NB150_169.out
           have hns62_3 := NB159_169.out
           have hns62_4 := NB160_169.out
           have hms62_0 := NB169_139.out
           have hms62_1 := NB169_145.out
           have hms62_2 := NB169_150.out
           have hms62_3 := NB169_159.out
           have hms62_4 := NB169_160.out
           have hs63 : w60.cell? ⟨gb169, 2, none⟩ = some (.int .i64 0) := (blk_cell BK169.out 2).trans rfl
           have hfs63 := blk_frozen BK169.out 2
           have hns63_0 := NB139_169.out
           have hns63_1 := NB145_169.out
           have hns63_2 := NB150_169.out
           have hns63_3 := NB159_169.out
           have hns63_4 := NB160_169.out
           have hms63_0 := NB169_139.out
           have hms63_1 := NB169_145.out
           have hms63_2 := NB169_150.out
           have hms63_3 := NB169_159.out
           have hms63_4 := NB169_160.out
           have hs64 : w60.cell? ⟨gb169, 3, none⟩ = some (.int .i64 0) := (blk_cell BK169.out 3).trans rfl
           have hfs64 := blk_frozen BK169.out 3
           have hns64_0 := NB139_169.out
           have hns64_1 := NB145_169.out
           have hns64_2 := NB150_169.out
           have hns64_3 := NB159_169.out
           have hns64_4 := NB160_169.out
           have hms64_0 := NB169_139.out
           have hms64_1 := NB169_145.out
           have hms64_2 := NB169_150.out
           have hms64_3 := NB169_159.out
           have hms64_4 := NB169_160.out
           refine skip_ (w1 := ?_) (by rfl) rfl ?_ ?_
           rotate_left
           ·go_simp
            rfl
           refine hK.out _ _ ⟨((cell_far (p := ⟨gb169, _, none⟩) NB139_169.out _).trans (((cell_far (p := ⟨gb169, _, none⟩) NB139_169.out _).trans (((cell_far (p := ⟨gb169, _, none⟩) NB139_169.out _).trans (((cell_far (p := ⟨gb169, _, none⟩) NB139_169.out _).trans (hHeld.1)))))))), ((cell_far (p := ⟨gb169, _, none⟩) NB139_169.out _).trans (((cell_far (p := ⟨gb169, _, none⟩) NB139_169.out _).trans (((cell_far (p := ⟨gb169, _, none⟩) NB139_169.out _).trans (((cell_far (p := ⟨gb169, _, none⟩) NB139_169.out _).trans (hHeld.2.1)))))))), ((cell_far (p := ⟨gb169, _, none⟩) NB139_169.out _).trans (((cell_far (p := ⟨gb169, _, none⟩) NB139_169.out _).trans (((cell_far (p := ⟨gb169, _, none⟩) NB139_169.out _).trans (((cell_far (p := ⟨gb169, _, none⟩) NB139_169.out _).trans (hHeld.2.2.1)))))))), ((cell_far (p := ⟨gb169, _, none⟩) NB139_169.out _).trans (((cell_far (p := ⟨gb169, _, none⟩) NB139_169.out _).trans (((cell_far (p := ⟨gb169, _, none⟩) NB139_169.out _).trans (((cell_far (p := ⟨gb169, _, none⟩) NB139_169.out _).trans (hHeld.2.2.2.1)))))))), ((cell_far (p := ⟨gb169, _, none⟩) NB160_169.out _).trans (((cell_far (p := ⟨gb169, _, none⟩) NB160_169.out _).trans (((cell_far (p := ⟨gb169, _, none⟩) NB160_169.out _).trans (((cell_far (p := ⟨gb169, _, none⟩) NB160_169.out _).trans (hHeld.2.2.2.2.1)))))))), ((cell_far (p := ⟨gb169, _, none⟩) NB160_169.out _).trans (((cell_far (p := ⟨gb169, _, none⟩) NB160_169.out _).trans (((cell_far (p := ⟨gb169, _, none⟩) NB160_169.out _).trans (((cell_far (p := ⟨gb169, _, none⟩) NB160_169.out _).trans (hHeld.2.2.2.2.2.1)))))))), ((cell_far (p := ⟨gb169, _, none⟩) NB160_169.out _).trans (((cell_far (p := ⟨gb169, _, none⟩) NB160_169.out _).trans (((cell_far (p := ⟨gb169, _, none⟩) NB160_169.out _).trans (((cell_far (p := ⟨gb169, _, none⟩) NB160_169.out _).trans (hHeld.2.2.2.2.2.2.1)))))))), ((cell_far (p := ⟨gb169, _, none⟩) NB160_169.out _).trans (((cell_far (p := ⟨gb169, _, none⟩) NB160_169.out _).trans (((cell_far (p := ⟨gb169, _, none⟩) NB160_169.out _).trans (((cell_far (p := ⟨gb169, _, none⟩) NB160_169.out _).trans (hHeld.2.2.2.2.2.2.2))))))))⟩ (fun hHeld => ?_)
           clear hK K
           refine done_ (by kernel_rfl) ?_
           have hnb65 := NB139_159.out
           have hnc65 := NB159_139.out
           have hnb66 := NB139_169.out
           have hnc66 := NB169_139.out
           have hcz67_0 : w60.cell? ⟨gb139, 0, none⟩ = some (.int .i64 t135) := (blk_cell BK139.out 0).trans rfl
           have hcz67_1 : w60.cell? ⟨gb139, 1, none⟩ = some (.int .i64 t136) := (blk_cell BK139.out 1).trans rfl
           have hcz67_2 : w60.cell? ⟨gb139, 2, none⟩ = some (.int .i64 t137) := (blk_cell BK139.out 2).trans rfl
           have hcz67_3 : w60.cell? ⟨gb139, 3, none⟩ = some (.int .i64 t138) := (blk_cell BK139.out 3).trans rfl
           have hfz67_0 := blk_frozen BK139.out 0
           have hfz67_1 := blk_frozen BK139.out 1
           have hfz67_2 := blk_frozen BK139.out 2
           have hfz67_3 := blk_frozen BK139.out 3
           have hnb68 := NB169_145.out
           have hnc68 := NB145_169.out
           have hnb69 := NB169_150.out
           have hnc69 := NB150_169.out
           have hnb70 := NB169_159.out
           have hnc70 := NB159_169.out
           have hnb71 := NB169_160.out
           have hnc71 := NB160_169.out
           have hcz72_0 : w60.cell? ⟨gb169, 0, none⟩ = some (.int .i64 0) := (blk_cell BK169.out 0).trans rfl
           have hcz72_1 : w60.cell? ⟨gb169, 1, none⟩ = some (.int .i64 0) := (blk_cell BK169.out 1).trans rfl
           have hcz72_2 : w60.cell? ⟨gb169, 2, none⟩ = some (.int .i64 0) := (blk_cell BK169.out 2).trans rfl
           have hcz72_3 : w60.cell? ⟨gb169, 3, none⟩ = some (.int .i64 0) := (blk_cell BK169.out 3).trans rfl
           have hfz72_0 := blk_frozen BK169.out 0
           have hfz72_1 := blk_frozen BK169.out 1
           have hfz72_2 := blk_frozen BK169.out 2
           have hfz72_3 := blk_frozen BK169.out 3
           try go_wp2_with (first | ((with_reducible refine gate_callee (f := 18) rfl ?_); refine goesL_ (some 36) rfl rfl Try.func18 (by kernel_rfl) rfl #[.agg #[.int .i64 t135, .int .i64 t136, .int .i64 t137, .int .i64 t138], .agg #[.int .i64 t165, .int .i64 t166, .int .i64 t167, .int .i64 t168]] rfl (by (try simp only [List.map_toArray, List.map_cons, List.map_nil]); first | done | rfl | (simp only [List.length_drop, List.length_take]; rfl)) ?_; (with_reducible refine (drive_Reset.calls t135 t136 t137 t138 t165 t166 t167 t168 t170 t171 t172 t173 t174 _ A8.out).mono ?_); rintro e w73 ⟨rfl, hb⟩; refine ⟨_, rfl, ?_⟩; have n0_ := Aside0.mk (blk_below (g := gb139) (o := .cells #[.int .i64 t135, .int .i64 t136, .int .i64 t137, .int .i64 t138] 23 (0, 0)) (by (with_reducible repeat (first | refine blk_drewN ?_ _ | refine blk_drew ?_ | refine blk_alloc ?_ _)); refine blk_far ?_ NB139_169.out _; (with_reducible repeat (first | refine blk_drewN ?_ _ | refine blk_drew ?_ | refine blk_alloc ?_ _)); refine blk_far ?_ NB139_169.out _; (with_reducible repeat (first | refine blk_drewN ?_ _ | refine blk_drew ?_ | refine blk_alloc ?_ _)); refine blk_far ?_ NB139_169.out _; (with_reducible repeat (first | refine blk_drewN ?_ _ | refine blk_drew ?_ | refine blk_alloc ?_ _)); refine blk_far ?_ NB139_169.out _; (with_reducible repeat (first | refine blk_drewN ?_ _ | refine blk_drew ?_ | refine blk_alloc ?_ _)); exact BK139.out) hb); have n1_ := Aside0.mk (blk_below (g := gb145) (o := .cells #[.int .i64 t140, .int .i64 t141, .int .i64 t142, .int .i64 t143] 25 (0, 0)) (by (with_reducible repeat (first | refine blk_drewN ?_ _ | refine blk_drew ?_ | refine blk_alloc ?_ _)); refine blk_far ?_ NB145_169.out _; (with_reducible repeat (first | refine blk_drewN ?_ _ | refine blk_drew ?_ | refine blk_alloc ?_ _)); refine blk_far ?_ NB145_169.out _; (with_reducible repeat (first | refine blk_drewN ?_ _ | refine blk_drew ?_ | refine blk_alloc ?_ _)); refine blk_far ?_ NB145_169.out _; (with_reducible repeat (first | refine blk_drewN ?_ _ | refine blk_drew ?_ | refine blk_alloc ?_ _)); refine blk_far ?_ NB145_169.out _; (with_reducible repeat (first | refine blk_drewN ?_ _ | refine blk_drew ?_ | refine blk_alloc ?_ _)); exact BK145.out) hb); have n2_ := Aside0.mk (blk_below (g := gb150) (o := .cells #[.int .i64 t146, .int .i64 t147, .int .i64 t148, .int .i64 t149] 25 (0, 0)) (by (with_reducible repeat (first | refine blk_drewN ?_ _ | refine blk_drew ?_ | refine blk_alloc ?_ _)); refine blk_far ?_ NB150_169.out _; (with_reducible repeat (first | refine blk_drewN ?_ _ | refine blk_drew ?_ | refine blk_alloc ?_ _)); refine blk_far ?_ NB150_169.out _; (with_reducible repeat (first | refine blk_drewN ?_ _ | refine blk_drew ?_ | refine blk_alloc ?_ _)); refine blk_far ?_ NB150_169.out _; (with_reducible repeat (first | refine blk_drewN ?_ _ | refine blk_drew ?_ | refine blk_alloc ?_ _)); refine blk_far ?_ NB150_169.out _; (with_reducible repeat (first | refine blk_drewN ?_ _ | refine blk_drew ?_ | refine blk_alloc ?_ _)); exact BK150.out) hb); have n3_ := Aside0.mk (blk_below (g := gb159) (o := .cells #[.int .i64 t155, .int .i64 t156, .int .i64 t157, .int .i64 t158] 25 (0, 0)) (by (with_reducible repeat (first | refine blk_drewN ?_ _ | refine blk_drew ?_ | refine blk_alloc ?_ _)); refine blk_far ?_ NB159_169.out _; (with_reducible repeat (first | refine blk_drewN ?_ _ | refine blk_drew ?_ | refine blk_alloc ?_ _)); refine blk_far ?_ NB159_169.out _; (with_reducible repeat (first | refine blk_drewN ?_ _ | refine blk_drew ?_ | refine blk_alloc ?_ _)); refine blk_far ?_ NB159_169.out _; (with_reducible repeat (first | refine blk_drewN ?_ _ | refine blk_drew ?_ | refine blk_alloc ?_ _)); refine blk_far ?_ NB159_169.out _; (with_reducible repeat (first | refine blk_drewN ?_ _ | refine blk_drew ?_ | refine blk_alloc ?_ _)); exact BK159.out) hb); have n4_ := Aside0.mk (blk_below (g := gb160) (o := .cells #[.int .i64 1, .int .i64 5000, .int .i64 5000, .int .i64 0] 25 (0, 0)) (by (with_reducible repeat (first | refine blk_drewN ?_ _ | refine blk_drew ?_ | refine blk_alloc ?_ _)); refine blk_far ?_ NB160_169.out _; (with_reducible repeat (first | refine blk_drewN ?_ _ | refine blk_drew ?_ | refine blk_alloc ?_ _)); refine blk_far ?_ NB160_169.out _; (with_reducible repeat (first | refine blk_drewN ?_ _ | refine blk_drew ?_ | refine blk_alloc ?_ _)); refine blk_far ?_ NB160_169.out _; (with_reducible repeat (first | refine blk_drewN ?_ _ | refine blk_drew ?_ | refine blk_alloc ?_ _)); refine blk_far ?_ NB160_169.out _; (with_reducible repeat (first | refine blk_drewN ?_ _ | refine blk_drew ?_ | refine blk_alloc ?_ _)); exact BK160.out) hb); have n5_ := Aside0.mk (blk_below (g := gb169) (o := .cells #[.int .i64 t165, .int .i64 t166, .int .i64 t167, .int .i64 t168] 25 (0, 0)) (by (with_reducible repeat (first | refine blk_drewN ?_ _ | refine blk_drew ?_ | refine blk_alloc ?_ _)); refine blk_put (cs := #[.int .i64 t165, .int .i64 t166, .int .i64 t167, .int .i64 0]) ?_ 3 _ rfl; (with_reducible repeat (first | refine blk_drewN ?_ _ | refine blk_drew ?_ | refine blk_alloc ?_ _)); refine blk_put (cs := #[.int .i64 t165, .int .i64 t166, .int .i64 0, .int .i64 0]) ?_ 2 _ rfl; (with_reducible repeat (first | refine blk_drewN ?_ _ | refine blk_drew ?_ | refine blk_alloc ?_ _)); refine blk_put (cs := #[.int .i64 t165, .int .i64 0, .int .i64 0, .int .i64 0]) ?_ 1 _ rfl; (with_reducible repeat (first | refine blk_drewN ?_ _ | refine blk_drew ?_ | refine blk_alloc ?_ _)); refine blk_put (cs := #[.int .i64 0, .int .i64 0, .int .i64 0, .int .i64 0]) ?_ 0 _ rfl; (with_reducible repeat (first | refine blk_drewN ?_ _ | refine blk_drew ?_ | refine blk_alloc ?_ _)); exact BK169.out) hb); have n6_ := Aside0.mk (below_step (by repeat (first | (with_reducible first | exact HB.out | apply below_alloc | apply pw_below_drewN | apply below_drew1 | refine below_set ?_ GE139.out | refine below_set ?_ GE145.out | refine below_set ?_ GE150.out | refine below_set ?_ GE159.out | refine below_set ?_ GE160.out | refine below_set ?_ GE169.out) | exact HB.out)) hb); clear BK139; clear BK145; clear BK150; clear BK159; clear BK160; clear BK169; clear HB; have BK139 := n0_; have BK145 := n1_; have BK150 := n2_; have BK159 := n3_; have BK160 := n4_; have BK169 := n5_; have HB := n6_; clear n0_ n1_ n2_ n3_ n4_ n5_ n6_; (try clear hb); (try clear hb2); (try clear hk); (try clear hi)) | ((with_reducible refine gate_dst (N := 8) rfl ?_); refine box_event ?hg (N := 8) ?hd (cs := #[.int .i64 0, .int .i64 0, .int .i64 0, .int .i64 0]) (t := 25) ?hr ?_; (case hd => rfl); (case hg => rfl); (case hr => first | (go_simp; done) | (go_simp; rfl)); intro gb175 hg w74 hbox hb; have n0_ := Aside0.mk (bb_ BK139.out hb); have n1_ := Aside0.mk (bb_ BK145.out hb); have n2_ := Aside0.mk (bb_ BK150.out hb); have n3_ := Aside0.mk (bb_ BK159.out hb); have n4_ := Aside0.mk (bb_ BK160.out hb); have n5_ := Aside0.mk (bb_ BK169.out hb); have n6_ := Aside0.mk (below_step (by repeat (first | (with_reducible first | exact HB.out | apply below_alloc | apply pw_below_drewN | apply below_drew1 | refine below_set ?_ GE139.out | refine below_set ?_ GE145.out | refine below_set ?_ GE150.out | refine below_set ?_ GE159.out | refine below_set ?_ GE160.out | refine below_set ?_ GE169.out) | exact HB.out)) hb); have n7_ := Aside0.mk (hbox); have n8_ := Aside0.mk ((by rw [hg]; exact (below_size (by repeat (first | (with_reducible first | exact HB.out | apply below_alloc | apply pw_below_drewN | apply below_drew1 | refine below_set ?_ GE139.out | refine below_set ?_ GE145.out | refine below_set ?_ GE150.out | refine below_set ?_ GE159.out | refine below_set ?_ GE160.out | refine below_set ?_ GE169.out) | exact HB.out))) : w.heap.size ≤ gb175)); have n9_ := Aside0.mk ((by rw [hg]; exact (below_size (by repeat (first | (with_reducible first | exact HB.out | apply below_alloc | apply pw_below_drewN | apply below_drew1 | refine below_set ?_ GE139.out | refine below_set ?_ GE145.out | refine below_set ?_ GE150.out | refine below_set ?_ GE159.out | refine below_set ?_ GE160.out | refine below_set ?_ GE169.out) | exact HB.out))) : w.heap.size ≤ gb175)); have n10_ := Aside0.mk ((by rw [hg]; exact Nat.ne_of_lt (blk_lt (g := gb139) (o := .cells #[.int .i64 t135, .int .i64 t136, .int .i64 t137, .int .i64 t138] 23 (0, 0)) (by (with_reducible repeat (first | refine blk_drewN ?_ _ | refine blk_drew ?_ | refine blk_alloc ?_ _)); exact BK139.out)) : gb139 ≠ gb175)); have n11_ := Aside0.mk ((by rw [hg]; exact Nat.ne_of_gt (blk_lt (g := gb139) (o := .cells #[.int .i64 t135, .int .i64 t136, .int .i64 t137, .int .i64 t138] 23 (0, 0)) (by (with_reducible repeat (first | refine blk_drewN ?_ _ | refine blk_drew ?_ | refine blk_alloc ?_ _)); exact BK139.out)) : gb175 ≠ gb139)); have n12_ := Aside0.mk ((by rw [hg]; exact Nat.ne_of_lt (blk_lt (g := gb145) (o := .cells #[.int .i64 t140, .int .i64 t141, .int .i64 t142, .int .i64 t143] 25 (0, 0)) (by (with_reducible repeat (first | refine blk_drewN ?_ _ | refine blk_drew ?_ | refine blk_alloc ?_ _)); exact BK145.out)) : gb145 ≠ gb175)); have n13_ := Aside0.mk ((by rw [hg]; exact Nat.ne_of_gt (blk_lt (g := gb145) (o := .cells #[.int .i64 t140, .int .i64 t141, .int .i64 t142, .int .i64 t143] 25 (0, 0)) (by (with_reducible repeat (first | refine blk_drewN ?_ _ | refine blk_drew ?_ | refine blk_alloc ?_ _)); exact BK145.out)) : gb175 ≠ gb145)); have n14_ := Aside0.mk ((by rw [hg]; exact Nat.ne_of_lt (blk_lt (g := gb150) (o := .cells #[.int .i64 t146, .int .i64 t147, .int .i64 t148, .int .i64 t149] 25 (0, 0)) (by (with_reducible repeat (first | refine blk_drewN ?_ _ | refine blk_drew ?_ | refine blk_alloc ?_ _)); exact BK150.out)) : gb150 ≠ gb175)); have n15_ := Aside0.mk ((by rw [hg]; exact Nat.ne_of_gt (blk_lt (g := gb150) (o := .cells #[.int .i64 t146, .int .i64 t147, .int .i64 t148, .int .i64 t149] 25 (0, 0)) (by (with_reducible repeat (first | refine blk_drewN ?_ _ | refine blk_drew ?_ | refine blk_alloc ?_ _)); exact BK150.out)) : gb175 ≠ gb150)); have n16_ := Aside0.mk ((by rw [hg]; exact Nat.ne_of_lt (blk_lt (g := gb159) (o := .cells #[.int .i64 t155, .int .i64 t156, .int .i64 t157, .int .i64 t158] 25 (0, 0)) (by (with_reducible repeat (first | refine blk_drewN ?_ _ | refine blk_drew ?_ | refine blk_alloc ?_ _)); exact BK159.out)) : gb159 ≠ gb175)); have n17_ := Aside0.mk ((by rw [hg]; exact Nat.ne_of_gt (blk_lt (g := gb159) (o := .cells #[.int .i64 t155, .int .i64 t156, .int .i64 t157, .int .i64 t158] 25 (0, 0)) (by (with_reducible repeat (first | refine blk_drewN ?_ _ | refine blk_drew ?_ | refine blk_alloc ?_ _)); exact BK159.out)) : gb175 ≠ gb159)); have n18_ := Aside0.mk ((by rw [hg]; exact Nat.ne_of_lt (blk_lt (g := gb160) (o := .cells #[.int .i64 1, .int .i64 5000, .int .i64 5000, .int .i64 0] 25 (0, 0)) (by (with_reducible repeat (first | refine blk_drewN ?_ _ | refine blk_drew ?_ | refine blk_alloc ?_ _)); exact BK160.out)) : gb160 ≠ gb175)); have n19_ := Aside0.mk ((by rw [hg]; exact Nat.ne_of_gt (blk_lt (g := gb160) (o := .cells #[.int .i64 1, .int .i64 5000, .int .i64 5000, .int .i64 0] 25 (0, 0)) (by (with_reducible repeat (first | refine blk_drewN ?_ _ | refine blk_drew ?_ | refine blk_alloc ?_ _)); exact BK160.out)) : gb175 ≠ gb160)); have n20_ := Aside0.mk ((by rw [hg]; exact Nat.ne_of_lt (blk_lt (g := gb169) (o := .cells #[.int .i64 t165, .int .i64 t166, .int .i64 t167, .int .i64 t168] 25 (0, 0)) (by (with_reducible repeat (first | refine blk_drewN ?_ _ | refine blk_drew ?_ | refine blk_alloc ?_ _)); exact BK169.out)) : gb169 ≠ gb175)); have n21_ := Aside0.mk ((by rw [hg]; exact Nat.ne_of_gt (blk_lt (g := gb169) (o := .cells #[.int .i64 t165, .int .i64 t166, .int .i64 t167, .int .i64 t168] 25 (0, 0)) (by (with_reducible repeat (first | refine blk_drewN ?_ _ | refine blk_drew ?_ | refine blk_alloc ?_ _)); exact BK169.out)) : gb175 ≠ gb169)); clear BK139; clear BK145; clear BK150; clear BK159; clear BK160; clear BK169; clear HB; have BK139 := n0_; have BK145 := n1_; have BK150 := n2_; have BK159 := n3_; have BK160 := n4_; have BK169 := n5_; have HB := n6_; have BK175 := n7_; have GW175 := n8_; have GE175 := n9_; have NB139_175 := n10_; have NB175_139 := n11_; have NB145_175 := n12_; have NB175_145 := n13_; have NB150_175 := n14_; have NB175_150 := n15_; have NB159_175 := n16_; have NB175_159 := n17_; have NB160_175 := n18_; have NB175_160 := n19_; have NB169_175 := n20_; have NB175_169 := n21_; clear n0_ n1_ n2_ n3_ n4_ n5_ n6_ n7_ n8_ n9_ n10_ n11_ n12_ n13_ n14_ n15_ n16_ n17_ n18_ n19_ n20_ n21_; clear hb hbox hg; have hnb75 := NB175_139.out; have hnc75 := NB139_175.out; have hnb76 := NB175_145.out; have hnc76 := NB145_175.out; have hnb77 := NB175_150.out; have hnc77 := NB150_175.out; have hnb78 := NB175_159.out; have hnc78 := NB159_175.out; have hnb79 := NB175_160.out; have hnc79 := NB160_175.out; have hnb80 := NB175_169.out; have hnc80 := NB169_175.out; have hcz81_0 : w74.cell? ⟨gb175, 0, none⟩ = some (.int .i64 0) := (blk_cell BK175.out 0).trans rfl; have hcz81_1 : w74.cell? ⟨gb175, 1, none⟩ = some (.int .i64 0) := (blk_cell BK175.out 1).trans rfl; have hcz81_2 : w74.cell? ⟨gb175, 2, none⟩ = some (.int .i64 0) := (blk_cell BK175.out 2).trans rfl; have hcz81_3 : w74.cell? ⟨gb175, 3, none⟩ = some (.int .i64 0) := (blk_cell BK175.out 3).trans rfl; have hfz81_0 := blk_frozen BK175.out 0; have hfz81_1 := blk_frozen BK175.out 1; have hfz81_2 := blk_frozen BK175.out 2; have hfz81_3 := blk_frozen BK175.out 3))
           have n0_ : Aside0 (((((w74.setCell ⟨gb175, 0, none⟩ (.int .i64 t170)).setCell ⟨gb175, 1, none⟩ (.int .i64 t171)).setCell ⟨gb175, 2, none⟩ (.int .i64 t172)).setCell ⟨gb175, 3, none⟩ (.int .i64 t173)).heap[gb139]? = some (.cells #[.int .i64 t135, .int .i64 t136, .int .i64 t137, .int .i64 t138] 23 (0, 0))) := ⟨by (with_reducible repeat (first | refine blk_drewN ?_ _ | refine blk_drew ?_ | refine blk_alloc ?_ _)); refine blk_far ?_ NB139_175.out _; (with_reducible repeat (first | refine blk_drewN ?_ _ | refine blk_drew ?_ | refine blk_alloc ?_ _)); refine blk_far ?_ NB139_175.out _; (with_reducible repeat (first | refine blk_drewN ?_ _ | refine blk_drew ?_ | refine blk_alloc ?_ _)); refine blk_far ?_ NB139_175.out _; (with_reducible repeat (first | refine blk_drewN ?_ _ | refine blk_drew ?_ | refine blk_alloc ?_ _)); refine blk_far ?_ NB139_175.out _; (with_reducible repeat (first | refine blk_drewN ?_ _ | refine blk_drew ?_ | refine blk_alloc ?_ _)); exact BK139.out⟩
           have n1_ : Aside0 (((((w74.setCell ⟨gb175, 0, none⟩ (.int .i64 t170)).setCell ⟨gb175, 1, none⟩ (.int .i64 t171)).setCell ⟨gb175, 2, none⟩ (.int .i64 t172)).setCell ⟨gb175, 3, none⟩ (.int .i64 t173)).heap[gb145]? = some (.cells #[.int .i64 t140, .int .i64 t141, .int .i64 t142, .int .i64 t143] 25 (0, 0))) := ⟨by (with_reducible repeat (first | refine blk_drewN ?_ _ | refine blk_drew ?_ | refine blk_alloc ?_ _)); refine blk_far ?_ NB145_175.out _; (with_reducible repeat (first | refine blk_drewN ?_ _ | refine blk_drew ?_ | refine blk_alloc ?_ _)); refine blk_far ?_ NB145_175.out _; (with_reducible repeat (first | refine blk_drewN ?_ _ | refine blk_drew ?_ | refine blk_alloc ?_ _)); refine blk_far ?_ NB145_175.out _; (with_reducible repeat (first | refine blk_drewN ?_ _ | refine blk_drew ?_ | refine blk_alloc ?_ _)); refine blk_far ?_ NB145_175.out _; (with_reducible repeat (first | refine blk_drewN ?_ _ | refine blk_drew ?_ | refine blk_alloc ?_ _)); exact BK145.out⟩
           have n2_ : Aside0 (((((w74.setCell ⟨gb175, 0, none⟩ (.int .i64 t170)).setCell ⟨gb175, 1, none⟩ (.int .i64 t171)).setCell ⟨gb175, 2, none⟩ (.int .i64 t172)).setCell ⟨gb175, 3, none⟩ (.int .i64 t173)).heap[gb150]? = some (.cells #[.int .i64 t146, .int .i64 t147, .int .i64 t148, .int .i64 t149] 25 (0, 0))) := ⟨by (with_reducible repeat (first | refine blk_drewN ?_ _ | refine blk_drew ?_ | refine blk_alloc ?_ _)); refine blk_far ?_ NB150_175.out _; (with_reducible repeat (first | refine blk_drewN ?_ _ | refine blk_drew ?_ | refine blk_alloc ?_ _)); refine blk_far ?_ NB150_175.out _; (with_reducible repeat (first | refine blk_drewN ?_ _ | refine blk_drew ?_ | refine blk_alloc ?_ _)); refine blk_far ?_ NB150_175.out _; (with_reducible repeat (first | refine blk_drewN ?_ _ | refine blk_drew ?_ | refine blk_alloc ?_ _)); refine blk_far ?_ NB150_175.out _; (with_reducible repeat (first | refine blk_drewN ?_ _ | refine blk_drew ?_ | refine blk_alloc ?_ _)); exact BK150.out⟩
           have n3_ : Aside0 (((((w74.setCell ⟨gb175, 0, none⟩ (.int .i64 t170)).setCell ⟨gb175, 1, none⟩ (.int .i64 t171)).setCell ⟨gb175, 2, none⟩ (.int .i64 t172)).setCell ⟨gb175, 3, none⟩ (.int .i64 t173)).heap[gb159]? = some (.cells #[.int .i64 t155, .int .i64 t156, .int .i64 t157, .int .i64 t158] 25 (0, 0))) := ⟨by (with_reducible repeat (first | refine blk_drewN ?_ _ | refine blk_drew ?_ | refine blk_alloc ?_ _)); refine blk_far ?_ NB159_175.out _; (with_reducible repeat (first | refine blk_drewN ?_ _ | refine blk_drew ?_ | refine blk_alloc ?_ _)); refine blk_far ?_ NB159_175.out _; (with_reducible repeat (first | refine blk_drewN ?_ _ | refine blk_drew ?_ | refine blk_alloc ?_ _)); refine blk_far ?_ NB159_175.out _; (with_reducible repeat (first | refine blk_drewN ?_ _ | refine blk_drew ?_ | refine blk_alloc ?_ _)); refine blk_far ?_ NB159_175.out _; (with_reducible repeat (first | refine blk_drewN ?_ _ | refine blk_drew ?_ | refine blk_alloc ?_ _)); exact BK159.out⟩
           have n4_ : Aside0 (((((w74.setCell ⟨gb175, 0, none⟩ (.int .i64 t170)).setCell ⟨gb175, 1, none⟩ (.int .i64 t171)).setCell ⟨gb175, 2, none⟩ (.int .i64 t172)).setCell ⟨gb175, 3, none⟩ (.int .i64 t173)).heap[gb160]? = some (.cells #[.int .i64 1, .int .i64 5000, .int .i64 5000, .int .i64 0] 25 (0, 0))) := ⟨by (with_reducible repeat (first | refine blk_drewN ?_ _ | refine blk_drew ?_ | refine blk_alloc ?_ _)); refine blk_far ?_ NB160_175.out _; (with_reducible repeat (first | refine blk_drewN ?_ _ | refine blk_drew ?_ | refine blk_alloc ?_ _)); refine blk_far ?_ NB160_175.out _; (with_reducible repeat (first | refine blk_drewN ?_ _ | refine blk_drew ?_ | refine blk_alloc ?_ _)); refine blk_far ?_ NB160_175.out _; (with_reducible repeat (first | refine blk_drewN ?_ _ | refine blk_drew ?_ | refine blk_alloc ?_ _)); refine blk_far ?_ NB160_175.out _; (with_reducible repeat (first | refine blk_drewN ?_ _ | refine blk_drew ?_ | refine blk_alloc ?_ _)); exact BK160.out⟩
           have n5_ : Aside0 (((((w74.setCell ⟨gb175, 0, none⟩ (.int .i64 t170)).setCell ⟨gb175, 1, none⟩ (.int .i64 t171)).setCell ⟨gb175, 2, none⟩ (.int .i64 t172)).setCell ⟨gb175, 3, none⟩ (.int .i64 t173)).heap[gb169]? = some (.cells #[.int .i64 t165, .int .i64 t166, .int .i64 t167, .int .i64 t168] 25 (0, 0))) := ⟨by (with_reducible repeat (first | refine blk_drewN ?_ _ | refine blk_drew ?_ | refine blk_alloc ?_ _)); refine blk_far ?_ NB169_175.out _; (with_reducible repeat (first | refine blk_drewN ?_ _ | refine blk_drew ?_ | refine blk_alloc ?_ _)); refine blk_far ?_ NB169_175.out _; (with_reducible repeat (first | refine blk_drewN ?_ _ | refine blk_drew ?_ | refine blk_alloc ?_ _)); refine blk_far ?_ NB169_175.out _; (with_reducible repeat (first | refine blk_drewN ?_ _ | refine blk_drew ?_ | refine blk_alloc ?_ _)); refine blk_far ?_ NB169_175.out _; (with_reducible repeat (first | refine blk_drewN ?_ _ | refine blk_drew ?_ | refine blk_alloc ?_ _)); exact BK169.out⟩
           have n6_ : Aside0 (((((w74.setCell ⟨gb175, 0, none⟩ (.int .i64 t170)).setCell ⟨gb175, 1, none⟩ (.int .i64 t171)).setCell ⟨gb175, 2, none⟩ (.int .i64 t172)).setCell ⟨gb175, 3, none⟩ (.int .i64 t173)).heap[gb175]? = some (.cells #[.int .i64 t170, .int .i64 t171, .int .i64 t172, .int .i64 t173] 25 (0, 0))) := ⟨by (with_reducible repeat (first | refine blk_drewN ?_ _ | refine blk_drew ?_ | refine blk_alloc ?_ _)); refine blk_put (cs := #[.int .i64 t170, .int .i64 t171, .int .i64 t172, .int .i64 0]) ?_ 3 _ rfl; (with_reducible repeat (first | refine blk_drewN ?_ _ | refine blk_drew ?_ | refine blk_alloc ?_ _)); refine blk_put (cs := #[.int .i64 t170, .int .i64 t171, .int .i64 0, .int .i64 0]) ?_ 2 _ rfl; (with_reducible repeat (first | refine blk_drewN ?_ _ | refine blk_drew ?_ | refine blk_alloc ?_ _)); refine blk_put (cs := #[.int .i64 t170, .int .i64 0, .int .i64 0, .int .i64 0]) ?_ 1 _ rfl; (with_reducible repeat (first | refine blk_drewN ?_ _ | refine blk_drew ?_ | refine blk_alloc ?_ _)); refine blk_put (cs := #[.int .i64 0, .int .i64 0, .int .i64 0, .int .i64 0]) ?_ 0 _ rfl; (with_reducible repeat (first | refine blk_drewN ?_ _ | refine blk_drew ?_ | refine blk_alloc ?_ _)); exact BK175.out⟩
           have n7_ : Aside0 (Below w.heap.size w ((((w74.setCell ⟨gb175, 0, none⟩ (.int .i64 t170)).setCell ⟨gb175, 1, none⟩ (.int .i64 t171)).setCell ⟨gb175, 2, none⟩ (.int .i64 t172)).setCell ⟨gb175, 3, none⟩ (.int .i64 t173))) := ⟨by repeat (first | (with_reducible first | exact HB.out | apply below_alloc | apply pw_below_drewN | apply below_drew1 | refine below_set ?_ GE139.out | refine below_set ?_ GE145.out | refine below_set ?_ GE150.out | refine below_set ?_ GE159.out | refine below_set ?_ GE160.out | refine below_set ?_ GE169.out | refine below_set ?_ GE175.out) | exact HB.out)⟩
           (try clear BK139)
           (try clear BK145)
           (try clear BK150)
           (try clear BK159)
           (try clear BK160)
           (try clear BK169)
           (try clear BK175)
           (try clear HB)
           generalize ((((w74.setCell ⟨gb175, 0, none⟩ (.int .i64 t170)).setCell ⟨gb175, 1, none⟩ (.int .i64 t171)).setCell ⟨gb175, 2, none⟩ (.int .i64 t172)).setCell ⟨gb175, 3, none⟩ (.int .i64 t173)) = w82 at n0_ n1_ n2_ n3_ n4_ n5_ n6_ n7_ ⊢
           have BK139 := n0_
           have BK145 := n1_
           have BK150 := n2_
           have BK159 := n3_
           have BK160 := n4_
           have BK169 := n5_
           have BK175 := n6_
           have HB := n7_
           clear n0_ n1_ n2_ n3_ n4_ n5_ n6_ n7_
           have n0_ := Aside0.mk (blk_drew BK139.out)
           have n1_ := Aside0.mk (blk_drew BK145.out)
           have n2_ := Aside0.mk (blk_drew BK150.out)
           have n3_ := Aside0.mk (blk_drew BK159.out)
           have n4_ := Aside0.mk (blk_drew BK160.out)
           have n5_ := Aside0.mk (blk_drew BK169.out)
           have n6_ := Aside0.mk (blk_drew BK175.out)
           have n7_ := Aside0.mk (below_drew1 HB.out)
           clear BK139
           clear BK145
           clear BK150
           clear BK159
           clear BK160
           clear BK169
           clear BK175
           clear HB
           have BK139 := n0_
           have BK145 := n1_
           have BK150 := n2_
           have BK159 := n3_
           have BK160 := n4_
           have BK169 := n5_
           have BK175 := n6_
           have HB := n7_
           clear n0_ n1_ n2_ n3_ n4_ n5_ n6_ n7_
           refine start_ (n := 13) (S := fun w' => w'.cell? ⟨gb139, 0, none⟩ = some (.int .i64 t135) ∧ w'.cell? ⟨gb139, 1, none⟩ = some (.int .i64 t136) ∧ w'.cell? ⟨gb139, 2, none⟩ = some (.int .i64 t137) ∧ w'.cell? ⟨gb139, 3, none⟩ = some (.int .i64 t138) ∧ w'.cell? ⟨gb160, 0, none⟩ = some (.int .i64 1) ∧ w'.cell? ⟨gb160, 1, none⟩ = some (.int .i64 5000) ∧ w'.cell? ⟨gb160, 2, none⟩ = some (.int .i64 5000) ∧ w'.cell? ⟨gb160, 3, none⟩ = some (.int .i64 0)) (ds := []) #[false, false, false, false, false, false, false, false, false, false, false, false, false] (by kernel_rfl) rfl rfl ⟨(blk_cell BK139.out 0).trans rfl, (blk_cell BK139.out 1).trans rfl, (blk_cell BK139.out 2).trans rfl, (blk_cell BK139.out 3).trans rfl, (blk_cell BK160.out 0).trans rfl, (blk_cell BK160.out 1).trans rfl, (blk_cell BK160.out 2).trans rfl, (blk_cell BK160.out 3).trans rfl⟩ (fun hHeld => ?_); refine with_tabW skiarealaw14_alive.tab8 skiarealaw14_alive.bits8 (fun HT_ HW_ => ?_)
           generalize w82.drew = w83 at BK139 BK145 BK150 BK159 BK160 BK169 BK175 HB hHeld ⊢
           refine take_ (i := 0) (N := some 40) (v := ?_) (a' := ?_) #[true, false, false, false, false, false, false, false, false, false, false, false, false] rfl rfl (take_ofW HT_.out HW_.out (by kernel_rfl)) (fun _ _ _ h => h) (Or.inl ⟨by rfl, ?_⟩) hHeld ?_ ?_
           rotate_left
           ·rintro w' ⟨s0, s1, s2, s3, s4, s5, s6, s7⟩
            go_simp
            with_reducible rfl
           rotate_left
           ·simp only [Act.put, List.setIfInBounds_toArray, List.set_cons_zero, List.set_cons_succ, i64_w, i32_w]
            rfl
           refine take_ (i := 1) (N := some 41) (v := ?_) (a' := ?_) #[true, true, false, false, false, false, false, false, false, false, false, false, false] rfl rfl (take_ofW HT_.out HW_.out (by kernel_rfl)) (fun _ _ _ h => h) (Or.inl ⟨by rfl, ?_⟩) hHeld ?_ ?_
           rotate_left
           ·rintro w' ⟨s0, s1, s2, s3, s4, s5, s6, s7⟩
            go_simp
            with_reducible rfl
           rotate_left
           ·simp only [Act.put, List.setIfInBounds_toArray, List.set_cons_zero, List.set_cons_succ, i64_w, i32_w]
            rfl
           refine take_ (i := 2) (N := some 42) (v := ?_) (a' := ?_) #[true, true, true, false, false, false, false, false, false, false, false, false, false] rfl rfl (take_ofW HT_.out HW_.out (by kernel_rfl)) (fun _ _ _ h => h) (Or.inl ⟨by rfl, ?_⟩) hHeld ?_ ?_
           rotate_left
           ·rintro w' ⟨s0, s1, s2, s3, s4, s5, s6, s7⟩
            go_simp
            with_reducible rfl
           rotate_left
           ·simp only [Act.put, List.setIfInBounds_toArray, List.set_cons_zero, List.set_cons_succ, i64_w, i32_w]
            rfl
           refine take_ (i := 3) (N := some 43) (v := ?_) (a' := ?_) #[true, true, true, true, false, false, false, false, false, false, false, false, false] rfl rfl (take_ofW HT_.out HW_.out (by kernel_rfl)) (fun _ _ _ h => h) (Or.inl ⟨by rfl, ?_⟩) hHeld ?_ ?_
           rotate_left
           ·rintro w' ⟨s0, s1, s2, s3, s4, s5, s6, s7⟩
            go_simp
            with_reducible rfl
           rotate_left
           ·simp only [Act.put, List.setIfInBounds_toArray, List.set_cons_zero, List.set_cons_succ, i64_w, i32_w]
            rfl
           refine join_ (σ := Nat) 2 #[true, true, true, true, true, true, true, true, true, true, true, false, false] (fun s_ => [(44, .agg #[.int .i64 t176, .int .i64 t177, .int .i64 t178, .int .i64 t179]), (45, .agg #[.int .i64 t180, .int .i64 t181, .int .i64 t182, .int .i64 t183]), (46, .tuple #[.agg #[.int .i64 t184, .int .i64 t185, .int .i64 t186, .int .i64 t187], .int .i64 t188]), (10, .pointer (some ⟨s_, 0, none⟩)), (39, .tuple #[.agg #[.int .i64 t184, .int .i64 t185, .int .i64 t186, .int .i64 t187], .int .i64 t188]), (47, .agg #[.int .i64 t184, .int .i64 t185, .int .i64 t186, .int .i64 t187]), (48, .int .i64 t188)]) (fun s_ w' => (w'.cell? ⟨gb139, 0, none⟩ = some (.int .i64 t135) ∧ w'.cell? ⟨gb139, 1, none⟩ = some (.int .i64 t136) ∧ w'.cell? ⟨gb139, 2, none⟩ = some (.int .i64 t137) ∧ w'.cell? ⟨gb139, 3, none⟩ = some (.int .i64 t138) ∧ w'.cell? ⟨gb160, 0, none⟩ = some (.int .i64 1) ∧ w'.cell? ⟨gb160, 1, none⟩ = some (.int .i64 5000) ∧ w'.cell? ⟨gb160, 2, none⟩ = some (.int .i64 5000) ∧ w'.cell? ⟨gb160, 3, none⟩ = some (.int .i64 0)) ∧ (w'.heap[gb139]? = some (.cells #[.int .i64 t135, .int .i64 t136, .int .i64 t137, .int .i64 t138] 23 (0, 0))) ∧ (w'.heap[gb145]? = some (.cells #[.int .i64 t140, .int .i64 t141, .int .i64 t142, .int .i64 t143] 25 (0, 0))) ∧ (w'.heap[gb150]? = some (.cells #[.int .i64 t146, .int .i64 t147, .int .i64 t148, .int .i64 t149] 25 (0, 0))) ∧ (w'.heap[gb159]? = some (.cells #[.int .i64 t155, .int .i64 t156, .int .i64 t157, .int .i64 t158] 25 (0, 0))) ∧ (w'.heap[gb160]? = some (.cells #[.int .i64 1, .int .i64 5000, .int .i64 5000, .int .i64 0] 25 (0, 0))) ∧ (w'.heap[gb169]? = some (.cells #[.int .i64 t165, .int .i64 t166, .int .i64 t167, .int .i64 t168] 25 (0, 0))) ∧ (w'.heap[gb175]? = some (.cells #[.int .i64 t170, .int .i64 t171, .int .i64 t172, .int .i64 t173] 25 (0, 0))) ∧ (w'.heap[s_]? = some (.cells #[.int .i64 0, .int .i64 0, .int .i64 0, .int .i64 0] 25 (0, 0))) ∧ (w.heap.size ≤ s_) ∧ (w.heap.size ≤ s_) ∧ (gb139 ≠ s_) ∧ (s_ ≠ gb139) ∧ (gb145 ≠ s_) ∧ (s_ ≠ gb145) ∧ (gb150 ≠ s_) ∧ (s_ ≠ gb150) ∧ (gb159 ≠ s_) ∧ (s_ ≠ gb159) ∧ (gb160 ≠ s_) ∧ (s_ ≠ gb160) ∧ (gb169 ≠ s_) ∧ (s_ ≠ gb169) ∧ (gb175 ≠ s_) ∧ (s_ ≠ gb175) ∧ (Below w.heap.size w w')) ?_ ?_
           rotate_left
           ·intro hCont
            refine two_ (i := 4) (j := 10) (Ni := some 44) (Nj := some 10) #[true, true, true, true, true, false, false, false, false, false, false, false, false] #[true, true, true, true, false, false, false, false, false, false, true, false, false] rfl rfl rfl rfl (two_of HT_.out (by kernel_rfl)) (by decide) (by decide) (fun K hK => ?_) (fun K hK => ?_)
            ·skip
             refine goes_ Try.func22 (by kernel_rfl) rfl #[.agg #[.int .i64 t135, .int .i64 t136, .int .i64 t137, .int .i64 t138], .agg #[.int .i64 1, .int .i64 5000, .int .i64 5000, .int .i64 0]] (by rfl) rfl rfl (by (try simp only [List.map_toArray, List.map_cons, List.map_nil]); first | done | rfl | (simp only [List.length_drop, List.length_take]; rfl)) ?_
             with_reducible refine (drive_Emergency.calls t135 t136 t137 t138 1 5000 5000 0 t176 t177 t178 t179 _ A9.out).mono ?_
             rintro e w84 ⟨rfl, hb⟩
             refine ⟨_, rfl, ?_⟩
             have n0_ := Aside0.mk (bb_ BK139.out hb)
             have n1_ := Aside0.mk (bb_ BK145.out hb)
             have n2_ := Aside0.mk (bb_ BK150.out hb)
             have n3_ := Aside0.mk (bb_ BK159.out hb)
             have n4_ := Aside0.mk (bb_ BK160.out hb)
             have n5_ := Aside0.mk (bb_ BK169.out hb)
             have n6_ := Aside0.mk (bb_ BK175.out hb)
             have n7_ := Aside0.mk (below_step (by repeat (first | (with_reducible first | exact HB.out | apply below_alloc | apply pw_below_drewN | apply below_drew1 | refine below_set ?_ GE139.out | refine below_set ?_ GE145.out | refine below_set ?_ GE150.out | refine below_set ?_ GE159.out | refine below_set ?_ GE160.out | refine below_set ?_ GE169.out | refine below_set ?_ GE175.out) | exact HB.out)) hb)
             clear BK139
             clear BK145
             clear BK150
             clear BK159
             clear BK160
             clear BK169
             clear BK175
             clear HB
             have BK139 := n0_
             have BK145 := n1_
             have BK150 := n2_
             have BK159 := n3_
             have BK160 := n4_
             have BK169 := n5_
             have BK175 := n6_
             have HB := n7_
             clear n0_ n1_ n2_ n3_ n4_ n5_ n6_ n7_
             (try clear hb)
             (try clear hb2)
             (try clear hk)
             (try clear hi)
             refine hK.out _ _ ⟨(blk_cell BK139.out 0).trans rfl, (blk_cell BK139.out 1).trans rfl, (blk_cell BK139.out 2).trans rfl, (blk_cell BK139.out 3).trans rfl, (blk_cell BK160.out 0).trans rfl, (blk_cell BK160.out 1).trans rfl, (blk_cell BK160.out 2).trans rfl, (blk_cell BK160.out 3).trans rfl⟩ (fun hHeld => ?_)
             clear hK K
             refine norm_ (a' := ?_) ?_ ?_
             rotate_left
             ·show Act.put _ (some 44) _ = _
              simp only [Act.put, List.setIfInBounds_toArray, List.set_cons_zero, List.set_cons_succ, i64_w, i32_w]
              rfl
             refine two_ (i := 5) (j := 10) (Ni := some 45) (Nj := some 10) #[true, true, true, true, true, true, false, false, false, false, false, false, false] #[true, true, true, true, true, false, false, false, false, false, true, false, false] rfl rfl rfl rfl (two_of HT_.out (by kernel_rfl)) (by decide) (by decide) (fun K hK => ?_) (fun K hK => ?_)
             ·skip
              refine goes_ Try.func24 (by kernel_rfl) rfl #[.agg #[.int .i64 t135, .int .i64 t136, .int .i64 t137, .int .i64 t138], .agg #[.int .i64 t176, .int .i64 t177, .int .i64 t178, .int .i64 t179], .int .i64 3] (by rfl) rfl rfl (by (try simp only [List.map_toArray, List.map_cons, List.map_nil]); first | done | rfl | (simp only [List.length_drop, List.length_take]; rfl)) ?_
              with_reducible refine (drive_Step.calls k t135 t136 t137 t138 t176 t177 t178 t179 3 t180 t181 t182 t183 _ A10.out).mono ?_
              rintro e w85 ⟨rfl, hb⟩
              refine ⟨_, rfl, ?_⟩
              have n0_ := Aside0.mk (bb_ BK139.out hb)
              have n1_ := Aside0.mk (bb_ BK145.out hb)
              have n2_ := Aside0.mk (bb_ BK150.out hb)
              have n3_ := Aside0.mk (bb_ BK159.out hb)
              have n4_ := Aside0.mk (bb_ BK160.out hb)
              have n5_ := Aside0.mk (bb_ BK169.out hb)
              have n6_ := Aside0.mk (bb_ BK175.out hb)
              have n7_ := Aside0.mk (below_step (by repeat (first | (with_reducible first | exact HB.out | apply below_alloc | apply pw_below_drewN | apply below_drew1 | refine below_set ?_ GE139.out | refine below_set ?_ GE145.out | refine below_set ?_ GE150.out | refine below_set ?_ GE159.out | refine below_set ?_ GE160.out | refine below_set ?_ GE169.out | refine below_set ?_ GE175.out) | exact HB.out)) hb)
              clear BK139
              clear BK145
              clear BK150
              clear BK159
              clear BK160
              clear BK169
              clear BK175
              clear HB
              have BK139 := n0_
              have BK145 := n1_
              have BK150 := n2_
              have BK159 := n3_
              have BK160 := n4_
              have BK169 := n5_
              have BK175 := n6_
              have HB := n7_
              clear n0_ n1_ n2_ n3_ n4_ n5_ n6_ n7_
              (try clear hb)
              (try clear hb2)
              (try clear hk)
              (try clear hi)
              refine hK.out _ _ ⟨(blk_cell BK139.out 0).trans rfl, (blk_cell BK139.out 1).trans rfl, (blk_cell BK139.out 2).trans rfl, (blk_cell BK139.out 3).trans rfl, (blk_cell BK160.out 0).trans rfl, (blk_cell BK160.out 1).trans rfl, (blk_cell BK160.out 2).trans rfl, (blk_cell BK160.out 3).trans rfl⟩ (fun hHeld => ?_)
              clear hK K
              refine norm_ (a' := ?_) ?_ ?_
              rotate_left
              ·show Act.put _ (some 45) _ = _
               simp only [Act.put, List.setIfInBounds_toArray, List.set_cons_zero, List.set_cons_succ, i64_w, i32_w]
               rfl
              refine two_ (i := 6) (j := 10) (Ni := some 46) (Nj := some 10) #[true, true, true, true, true, true, true, false, false, false, false, false, false] #[true, true, true, true, true, true, false, false, false, false, true, false, false] rfl rfl rfl rfl (two_of HT_.out (by kernel_rfl)) (by decide) (by decide) (fun K hK => ?_) (fun K hK => ?_)
              ·skip
               refine goes_ Try.func18 (by kernel_rfl) rfl #[.agg #[.int .i64 t135, .int .i64 t136, .int .i64 t137, .int .i64 t138], .agg #[.int .i64 t180, .int .i64 t181, .int .i64 t182, .int .i64 t183]] (by rfl) rfl rfl (by (try simp only [List.map_toArray, List.map_cons, List.map_nil]); first | done | rfl | (simp only [List.length_drop, List.length_take]; rfl)) ?_
               with_reducible refine (drive_Reset.calls t135 t136 t137 t138 t180 t181 t182 t183 t184 t185 t186 t187 t188 _ A11.out).mono ?_
               rintro e w86 ⟨rfl, hb⟩
               refine ⟨_, rfl, ?_⟩
               have n0_ := Aside0.mk (bb_ BK139.out hb)
               have n1_ := Aside0.mk (bb_ BK145.out hb)
               have n2_ := Aside0.mk (bb_ BK150.out hb)
               have n3_ := Aside0.mk (bb_ BK159.out hb)
               have n4_ := Aside0.mk (bb_ BK160.out hb)
               have n5_ := Aside0.mk (bb_ BK169.out hb)
               have n6_ := Aside0.mk (bb_ BK175.out hb)
               have n7_ := Aside0.mk (below_step (by repeat (first | (with_reducible first | exact HB.out | apply below_alloc | apply pw_below_drewN | apply below_drew1 | refine below_set ?_ GE139.out | refine below_set ?_ GE145.out | refine below_set ?_ GE150.out | refine below_set ?_ GE159.out | refine below_set ?_ GE160.out | refine below_set ?_ GE169.out | refine below_set ?_ GE175.out) | exact HB.out)) hb)
               clear BK139
               clear BK145
               clear BK150
               clear BK159
               clear BK160
               clear BK169
               clear BK175
               clear HB
               have BK139 := n0_
               have BK145 := n1_
               have BK150 := n2_
               have BK159 := n3_
               have BK160 := n4_
               have BK169 := n5_
               have BK175 := n6_
               have HB := n7_
               clear n0_ n1_ n2_ n3_ n4_ n5_ n6_ n7_
               (try clear hb)
               (try clear hb2)
               (try clear hk)
               (try clear hi)
               refine hK.out _ _ ⟨(blk_cell BK139.out 0).trans rfl, (blk_cell BK139.out 1).trans rfl, (blk_cell BK139.out 2).trans rfl, (blk_cell BK139.out 3).trans rfl, (blk_cell BK160.out 0).trans rfl, (blk_cell BK160.out 1).trans rfl, (blk_cell BK160.out 2).trans rfl, (blk_cell BK160.out 3).trans rfl⟩ (fun hHeld => ?_)
               clear hK K
               refine norm_ (a' := ?_) ?_ ?_
               rotate_left
               ·show Act.put _ (some 46) _ = _
                simp only [Act.put, List.setIfInBounds_toArray, List.set_cons_zero, List.set_cons_succ, i64_w, i32_w]
                rfl
               refine pure_ (i := 7) (N := some 39) (v := ?_) (a' := ?_) #[true, true, true, true, true, true, true, true, false, false, false, false, false] rfl rfl (any_of HT_.out (by kernel_rfl)) (fun _ _ _ h => h) (Or.inl ⟨by rfl, ?_⟩) ?_ ?_
               rotate_left
               ·intro w'
                go_simp
                with_reducible rfl
               rotate_left
               ·simp only [Act.put, List.setIfInBounds_toArray, List.set_cons_zero, List.set_cons_succ, i64_w, i32_w]
                rfl
               refine pure_ (i := 8) (N := some 47) (v := ?_) (a' := ?_) #[true, true, true, true, true, true, true, true, true, false, false, false, false] rfl rfl (any_of HT_.out (by kernel_rfl)) (fun _ _ _ h => h) (Or.inl ⟨by rfl, ?_⟩) ?_ ?_
               rotate_left
               ·intro w'
                go_simp
                with_reducible rfl
               rotate_left
               ·simp only [Act.put, List.setIfInBounds_toArray, List.set_cons_zero, List.set_cons_succ, i64_w, i32_w]
                rfl
               refine pure_ (i := 9) (N := some 48) (v := ?_) (a' := ?_) #[true, true, true, true, true, true, true, true, true, true, false, false, false] rfl rfl (any_of HT_.out (by kernel_rfl)) (fun _ _ _ h => h) (Or.inl ⟨by rfl, ?_⟩) ?_ ?_
               rotate_left
               ·intro w'
                go_simp
                with_reducible rfl
               rotate_left
               ·simp only [Act.put, List.setIfInBounds_toArray, List.set_cons_zero, List.set_cons_succ, i64_w, i32_w]
                rfl
               refine one_ (i := 10) (N := some 10) #[true, true, true, true, true, true, true, true, true, true, true, false, false] rfl rfl (one_of HT_.out (by kernel_rfl)) (by decide) (fun K hK => ?_)
               refine box_step ?hg (N := 10) ?hd (cs := #[.int .i64 0, .int .i64 0, .int .i64 0, .int .i64 0]) (t := 25) ?hr ?_; (case hd => rfl); (case hg => rfl); (case hr => first | (go_simp; done) | (go_simp; rfl))
               intro gb189 hg w87 hbox hb
               have n0_ := Aside0.mk (bb_ BK139.out hb)
               have n1_ := Aside0.mk (bb_ BK145.out hb)
               have n2_ := Aside0.mk (bb_ BK150.out hb)
               have n3_ := Aside0.mk (bb_ BK159.out hb)
               have n4_ := Aside0.mk (bb_ BK160.out hb)
               have n5_ := Aside0.mk (bb_ BK169.out hb)
               have n6_ := Aside0.mk (bb_ BK175.out hb)
               have n7_ := Aside0.mk (below_step (by repeat (first | (with_reducible first | exact HB.out | apply below_alloc | apply pw_below_drewN | apply below_drew1 | refine below_set ?_ GE139.out | refine below_set ?_ GE145.out | refine below_set ?_ GE150.out | refine below_set ?_ GE159.out | refine below_set ?_ GE160.out | refine below_set ?_ GE169.out | refine below_set ?_ GE175.out) | exact HB.out)) hb)
               have n8_ := Aside0.mk (hbox)
               have n9_ := Aside0.mk ((by rw [hg]; exact (below_size (by repeat (first | (with_reducible first | exact HB.out | apply below_alloc | apply pw_below_drewN | apply below_drew1 | refine below_set ?_ GE139.out | refine below_set ?_ GE145.out | refine below_set ?_ GE150.out | refine below_set ?_ GE159.out | refine below_set ?_ GE160.out | refine below_set ?_ GE169.out | refine below_set ?_ GE175.out) | exact HB.out))) : w.heap.size ≤ gb189))
               have n10_ := Aside0.mk ((by rw [hg]; exact (below_size (by repeat (first | (with_reducible first | exact HB.out | apply below_alloc | apply pw_below_drewN | apply below_drew1 | refine below_set ?_ GE139.out | refine below_set ?_ GE145.out | refine below_set ?_ GE150.out | refine below_set ?_ GE159.out | refine below_set ?_ GE160.out | refine below_set ?_ GE169.out | refine below_set ?_ GE175.out) | exact HB.out))) : w.heap.size ≤ gb189))
               have n11_ := Aside0.mk ((by rw [hg]; exact Nat.ne_of_lt (blk_lt (g := gb139) (o := .cells #[.int .i64 t135, .int .i64 t136, .int .i64 t137, .int .i64 t138] 23 (0, 0)) (by (with_reducible repeat (first | refine blk_drewN ?_ _ | refine blk_drew ?_ | refine blk_alloc ?_ _)); exact BK139.out)) : gb139 ≠ gb189))
               have n12_ := Aside0.mk ((by rw [hg]; exact Nat.ne_of_gt (blk_lt (g := gb139) (o := .cells #[.int .i64 t135, .int .i64 t136, .int .i64 t137, .int .i64 t138] 23 (0, 0)) (by (with_reducible repeat (first | refine blk_drewN ?_ _ | refine blk_drew ?_ | refine blk_alloc ?_ _)); exact BK139.out)) : gb189 ≠ gb139))
               have n13_ := Aside0.mk ((by rw [hg]; exact Nat.ne_of_lt (blk_lt (g := gb145) (o := .cells #[.int .i64 t140, .int .i64 t141, .int .i64 t142, .int .i64 t143] 25 (0, 0)) (by (with_reducible repeat (first | refine blk_drewN ?_ _ | refine blk_drew ?_ | refine blk_alloc ?_ _)); exact BK145.out)) : gb145 ≠ gb189))
               have n14_ := Aside0.mk ((by rw [hg]; exact Nat.ne_of_gt (blk_lt (g := gb145) (o := .cells #[.int .i64 t140, .int .i64 t141, .int .i64 t142, .int .i64 t143] 25 (0, 0)) (by (with_reducible repeat (first | refine blk_drewN ?_ _ | refine blk_drew ?_ | refine blk_alloc ?_ _)); exact BK145.out)) : gb189 ≠ gb145))
               have n15_ := Aside0.mk ((by rw [hg]; exact Nat.ne_of_lt (blk_lt (g := gb150) (o := .cells #[.int .i64 t146, .int .i64 t147, .int .i64 t148, .int .i64 t149] 25 (0, 0)) (by (with_reducible repeat (first | refine blk_drewN ?_ _ | refine blk_drew ?_ | refine blk_alloc ?_ _)); exact BK150.out)) : gb150 ≠ gb189))
               have n16_ := Aside0.mk ((by rw [hg]; exact Nat.ne_of_gt (blk_lt (g := gb150) (o := .cells #[.int .i64 t146, .int .i64 t147, .int .i64 t148, .int .i64 t149] 25 (0, 0)) (by (with_reducible repeat (first | refine blk_drewN ?_ _ | refine blk_drew ?_ | refine blk_alloc ?_ _)); exact BK150.out)) : gb189 ≠ gb150))
               have n17_ := Aside0.mk ((by rw [hg]; exact Nat.ne_of_lt (blk_lt (g := gb159) (o := .cells #[.int .i64 t155, .int .i64 t156, .int .i64 t157, .int .i64 t158] 25 (0, 0)) (by (with_reducible repeat (first | refine blk_drewN ?_ _ | refine blk_drew ?_ | refine blk_alloc ?_ _)); exact BK159.out)) : gb159 ≠ gb189))
               have n18_ := Aside0.mk ((by rw [hg]; exact Nat.ne_of_gt (blk_lt (g := gb159) (o := .cells #[.int .i64 t155, .int .i64 t156, .int .i64 t157, .int .i64 t158] 25 (0, 0)) (by (with_reducible repeat (first | refine blk_drewN ?_ _ | refine blk_drew ?_ | refine blk_alloc ?_ _)); exact BK159.out)) : gb189 ≠ gb159))
               have n19_ := Aside0.mk ((by rw [hg]; exact Nat.ne_of_lt (blk_lt (g := gb160) (o := .cells #[.int .i64 1, .int .i64 5000, .int .i64 5000, .int .i64 0] 25 (0, 0)) (by (with_reducible repeat (first | refine blk_drewN ?_ _ | refine blk_drew ?_ | refine blk_alloc ?_ _)); exact BK160.out)) : gb160 ≠ gb189))
               have n20_ := Aside0.mk ((by rw [hg]; exact Nat.ne_of_gt (blk_lt (g := gb160) (o := .cells #[.int .i64 1, .int .i64 5000, .int .i64 5000, .int .i64 0] 25 (0, 0)) (by (with_reducible repeat (first | refine blk_drewN ?_ _ | refine blk_drew ?_ | refine blk_alloc ?_ _)); exact BK160.out)) : gb189 ≠ gb160))
               have n21_ := Aside0.mk ((by rw [hg]; exact Nat.ne_of_lt (blk_lt (g := gb169) (o := .cells #[.int .i64 t165, .int .i64 t166, .int .i64 t167, .int .i64 t168] 25 (0, 0)) (by (with_reducible repeat (first | refine blk_drewN ?_ _ | refine blk_drew ?_ | refine blk_alloc ?_ _)); exact BK169.out)) : gb169 ≠ gb189))
               have n22_ := Aside0.mk ((by rw [hg]; exact Nat.ne_of_gt (blk_lt (g := gb169) (o := .cells #[.int .i64 t165, .int .i64 t166, .int .i64 t167, .int .i64 t168] 25 (0, 0)) (by (with_reducible repeat (first | refine blk_drewN ?_ _ | refine blk_drew ?_ | refine blk_alloc ?_ _)); exact BK169.out)) : gb189 ≠ gb169))
               have n23_ := Aside0.mk ((by rw [hg]; exact Nat.ne_of_lt (blk_lt (g := gb175) (o := .cells #[.int .i64 t170, .int .i64 t171, .int .i64 t172, .int .i64 t173] 25 (0, 0)) (by (with_reducible repeat (first | refine blk_drewN ?_ _ | refine blk_drew ?_ | refine blk_alloc ?_ _)); exact BK175.out)) : gb175 ≠ gb189))
               have n24_ := Aside0.mk ((by rw [hg]; exact Nat.ne_of_gt (blk_lt (g := gb175) (o := .cells #[.int .i64 t170, .int .i64 t171, .int .i64 t172, .int .i64 t173] 25 (0, 0)) (by (with_reducible repeat (first | refine blk_drewN ?_ _ | refine blk_drew ?_ | refine blk_alloc ?_ _)); exact BK175.out)) : gb189 ≠ gb175))
               clear BK139
               clear BK145
               clear BK150
               clear BK159
               clear BK160
               clear BK169
               clear BK175
               clear HB
               have BK139 := n0_
               have BK145 := n1_
               have BK150 := n2_
               have BK159 := n3_
               have BK160 := n4_
               have BK169 := n5_
               have BK175 := n6_
               have HB := n7_
               have BK189 := n8_
               have GW189 := n9_
               have GE189 := n10_
               have NB139_189 := n11_
               have NB189_139 := n12_
               have NB145_189 := n13_
               have NB189_145 := n14_
               have NB150_189 := n15_
               have NB189_150 := n16_
               have NB159_189 := n17_
               have NB189_159 := n18_
               have NB160_189 := n19_
               have NB189_160 := n20_
               have NB169_189 := n21_
               have NB189_169 := n22_
               have NB175_189 := n23_
               have NB189_175 := n24_
               clear n0_ n1_ n2_ n3_ n4_ n5_ n6_ n7_ n8_ n9_ n10_ n11_ n12_ n13_ n14_ n15_ n16_ n17_ n18_ n19_ n20_ n21_ n22_ n23_ n24_
               clear hb hbox hg
               refine hK.out _ _ ⟨(blk_cell BK139.out 0).trans rfl, (blk_cell BK139.out 1).trans rfl, (blk_cell BK139.out 2).trans rfl, (blk_cell BK139.out 3).trans rfl, (blk_cell BK160.out 0).trans rfl, (blk_cell BK160.out 1).trans rfl, (blk_cell BK160.out 2).trans rfl, (blk_cell BK160.out 3).trans rfl⟩ (fun hHeld => ?_)
               clear hK K
               refine norm_ (a' := ?_) ?_ ?_
               rotate_left
               ·show Act.put _ (some 10) _ = _
                simp only [Act.put, List.setIfInBounds_toArray, List.set_cons_zero, List.set_cons_succ, i64_w, i32_w]
                rfl
               exact norm_ (by simp only [putAll, Act.put, List.setIfInBounds_toArray, List.set_cons_zero, List.set_cons_succ]) (hCont (gb189) _ ⟨hHeld, (by (with_reducible repeat (first | refine blk_drewN ?_ _ | refine blk_drew ?_ | refine blk_alloc ?_ _)); exact BK139.out), (by (with_reducible repeat (first | refine blk_drewN ?_ _ | refine blk_drew ?_ | refine blk_alloc ?_ _)); exact BK145.out), (by (with_reducible repeat (first | refine blk_drewN ?_ _ | refine blk_drew ?_ | refine blk_alloc ?_ _)); exact BK150.out), (by (with_reducible repeat (first | refine blk_drewN ?_ _ | refine blk_drew ?_ | refine blk_alloc ?_ _)); exact BK159.out), (by (with_reducible repeat (first | refine blk_drewN ?_ _ | refine blk_drew ?_ | refine blk_alloc ?_ _)); exact BK160.out), (by (with_reducible repeat (first | refine blk_drewN ?_ _ | refine blk_drew ?_ | refine blk_alloc ?_ _)); exact BK169.out), (by (with_reducible repeat (first | refine blk_drewN ?_ _ | refine blk_drew ?_ | refine blk_alloc ?_ _)); exact BK175.out), (by (with_reducible repeat (first | refine blk_drewN ?_ _ | refine blk_drew ?_ | refine blk_alloc ?_ _)); exact BK189.out), GW189.out, GE189.out, NB139_189.out, NB189_139.out, NB145_189.out, NB189_145.out, NB150_189.out, NB189_150.out, NB159_189.out, NB189_159.out, NB160_189.out, NB189_160.out, NB169_189.out, NB189_169.out, NB175_189.out, NB189_175.out, (by repeat (first | (with_reducible first | exact HB.out | apply below_alloc | apply pw_below_drewN | apply below_drew1 | refine below_set ?_ GE139.out | refine below_set ?_ GE145.out | refine below_set ?_ GE150.out | refine below_set ?_ GE159.out | refine below_set ?_ GE160.out | refine below_set ?_ GE169.out | refine below_set ?_ GE175.out | refine below_set ?_ GE189.out) | exact HB.out))⟩)
              ·skip
               refine box_step ?hg (N := 10) ?hd (cs := #[.int .i64 0, .int .i64 0, .int .i64 0, .int .i64 0]) (t := 25) ?hr ?_; (case hd => rfl); (case hg => rfl); (case hr => first | (go_simp; done) | (go_simp; rfl))
               intro gb189 hg w86 hbox hb
               have n0_ := Aside0.mk (bb_ BK139.out hb)
               have n1_ := Aside0.mk (bb_ BK145.out hb)
               have n2_ := Aside0.mk (bb_ BK150.out hb)
               have n3_ := Aside0.mk (bb_ BK159.out hb)
               have n4_ := Aside0.mk (bb_ BK160.out hb)
               have n5_ := Aside0.mk (bb_ BK169.out hb)
               have n6_ := Aside0.mk (bb_ BK175.out hb)
               have n7_ := Aside0.mk (below_step (by repeat (first | (with_reducible first | exact HB.out | apply below_alloc | apply pw_below_drewN | apply below_drew1 | refine below_set ?_ GE139.out | refine below_set ?_ GE145.out | refine below_set ?_ GE150.out | refine below_set ?_ GE159.out | refine below_set ?_ GE160.out | refine below_set ?_ GE169.out | refine below_set ?_ GE175.out) | exact HB.out)) hb)
               have n8_ := Aside0.mk (hbox)
               have n9_ := Aside0.mk ((by rw [hg]; exact (below_size (by repeat (first | (with_reducible first | exact HB.out | apply below_alloc | apply pw_below_drewN | apply below_drew1 | refine below_set ?_ GE139.out | refine below_set ?_ GE145.out | refine below_set ?_ GE150.out | refine below_set ?_ GE159.out | refine below_set ?_ GE160.out | refine below_set ?_ GE169.out | refine below_set ?_ GE175.out) | exact HB.out))) : w.heap.size ≤ gb189))
               have n10_ := Aside0.mk ((by rw [hg]; exact (below_size (by repeat (first | (with_reducible first | exact HB.out | apply below_alloc | apply pw_below_drewN | apply below_drew1 | refine below_set ?_ GE139.out | refine below_set ?_ GE145.out | refine below_set ?_ GE150.out | refine below_set ?_ GE159.out | refine below_set ?_ GE160.out | refine below_set ?_ GE169.out | refine below_set ?_ GE175.out) | exact HB.out))) : w.heap.size ≤ gb189))
               have n11_ := Aside0.mk ((by rw [hg]; exact Nat.ne_of_lt (blk_lt (g := gb139) (o := .cells #[.int .i64 t135, .int .i64 t136, .int .i64 t137, .int .i64 t138] 23 (0, 0)) (by (with_reducible repeat (first | refine blk_drewN ?_ _ | refine blk_drew ?_ | refine blk_alloc ?_ _)); exact BK139.out)) : gb139 ≠ gb189))
               have n12_ := Aside0.mk ((by rw [hg]; exact Nat.ne_of_gt (blk_lt (g := gb139) (o := .cells #[.int .i64 t135, .int .i64 t136, .int .i64 t137, .int .i64 t138] 23 (0, 0)) (by (with_reducible repeat (first | refine blk_drewN ?_ _ | refine blk_drew ?_ | refine blk_alloc ?_ _)); exact BK139.out)) : gb189 ≠ gb139))
               have n13_ := Aside0.mk ((by rw [hg]; exact Nat.ne_of_lt (blk_lt (g := gb145) (o := .cells #[.int .i64 t140, .int .i64 t141, .int .i64 t142, .int .i64 t143] 25 (0, 0)) (by (with_reducible repeat (first | refine blk_drewN ?_ _ | refine blk_drew ?_ | refine blk_alloc ?_ _)); exact BK145.out)) : gb145 ≠ gb189))
               have n14_ := Aside0.mk ((by rw [hg]; exact Nat.ne_of_gt (blk_lt (g := gb145) (o := .cells #[.int .i64 t140, .int .i64 t141, .int .i64 t142, .int .i64 t143] 25 (0, 0)) (by (with_reducible repeat (first | refine blk_drewN ?_ _ | refine blk_drew ?_ | refine blk_alloc ?_ _)); exact BK145.out)) : gb189 ≠ gb145))
               have n15_ := Aside0.mk ((by rw [hg]; exact Nat.ne_of_lt (blk_lt (g := gb150) (o := .cells #[.int .i64 t146, .int .i64 t147, .int .i64 t148, .int .i64 t149] 25 (0, 0)) (by (with_reducible repeat (first | refine blk_drewN ?_ _ | refine blk_drew ?_ | refine blk_alloc ?_ _)); exact BK150.out)) : gb150 ≠ gb189))
               have n16_ := Aside0.mk ((by rw [hg]; exact Nat.ne_of_gt (blk_lt (g := gb150) (o := .cells #[.int .i64 t146, .int .i64 t147, .int .i64 t148, .int .i64 t149] 25 (0, 0)) (by (with_reducible repeat (first | refine blk_drewN ?_ _ | refine blk_drew ?_ | refine blk_alloc ?_ _)); exact BK150.out)) : gb189 ≠ gb150))
               have n17_ := Aside0.mk ((by rw [hg]; exact Nat.ne_of_lt (blk_lt (g := gb159) (o := .cells #[.int .i64 t155, .int .i64 t156, .int .i64 t157, .int .i64 t158] 25 (0, 0)) (by (with_reducible repeat (first | refine blk_drewN ?_ _ | refine blk_drew ?_ | refine blk_alloc ?_ _)); exact BK159.out)) : gb159 ≠ gb189))
               have n18_ := Aside0.mk ((by rw [hg]; exact Nat.ne_of_gt (blk_lt (g := gb159) (o := .cells #[.int .i64 t155, .int .i64 t156, .int .i64 t157, .int .i64 t158] 25 (0, 0)) (by (with_reducible repeat (first | refine blk_drewN ?_ _ | refine blk_drew ?_ | refine blk_alloc ?_ _)); exact BK159.out)) : gb189 ≠ gb159))
               have n19_ := Aside0.mk ((by rw [hg]; exact Nat.ne_of_lt (blk_lt (g := gb160) (o := .cells #[.int .i64 1, .int .i64 5000, .int .i64 5000, .int .i64 0] 25 (0, 0)) (by (with_reducible repeat (first | refine blk_drewN ?_ _ | refine blk_drew ?_ | refine blk_alloc ?_ _)); exact BK160.out)) : gb160 ≠ gb189))
               have n20_ := Aside0.mk ((by rw [hg]; exact Nat.ne_of_gt (blk_lt (g := gb160) (o := .cells #[.int .i64 1, .int .i64 5000, .int .i64 5000, .int .i64 0] 25 (0, 0)) (by (with_reducible repeat (first | refine blk_drewN ?_ _ | refine blk_drew ?_ | refine blk_alloc ?_ _)); exact BK160.out)) : gb189 ≠ gb160))
               have n21_ := Aside0.mk ((by rw [hg]; exact Nat.ne_of_lt (blk_lt (g := gb169) (o := .cells #[.int .i64 t165, .int .i64 t166, .int .i64 t167, .int .i64 t168] 25 (0, 0)) (by (with_reducible repeat (first | refine blk_drewN ?_ _ | refine blk_drew ?_ | refine blk_alloc ?_ _)); exact BK169.out)) : gb169 ≠ gb189))
               have n22_ := Aside0.mk ((by rw [hg]; exact Nat.ne_of_gt (blk_lt (g := gb169) (o := .cells #[.int .i64 t165, .int .i64 t166, .int .i64 t167, .int .i64 t168] 25 (0, 0)) (by (with_reducible repeat (first | refine blk_drewN ?_ _ | refine blk_drew ?_ | refine blk_alloc ?_ _)); exact BK169.out)) : gb189 ≠ gb169))
               have n23_ := Aside0.mk ((by rw [hg]; exact Nat.ne_of_lt (blk_lt (g := gb175) (o := .cells #[.int .i64 t170, .int .i64 t171, .int .i64 t172, .int .i64 t173] 25 (0, 0)) (by (with_reducible repeat (first | refine blk_drewN ?_ _ | refine blk_drew ?_ | refine blk_alloc ?_ _)); exact BK175.out)) : gb175 ≠ gb189))
               have n24_ := Aside0.mk ((by rw [hg]; exact Nat.ne_of_gt (blk_lt (g := gb175) (o := .cells #[.int .i64 t170, .int .i64 t171, .int .i64 t172, .int .i64 t173] 25 (0, 0)) (by (with_reducible repeat (first | refine blk_drewN ?_ _ | refine blk_drew ?_ | refine blk_alloc ?_ _)); exact BK175.out)) : gb189 ≠ gb175))
               clear BK139
               clear BK145
               clear BK150
               clear BK159
               clear BK160
               clear BK169
               clear BK175
               clear HB
               have BK139 := n0_
               have BK145 := n1_
               have BK150 := n2_
               have BK159 := n3_
               have BK160 := n4_
               have BK169 := n5_
               have BK175 := n6_
               have HB := n7_
               have BK189 := n8_
               have GW189 := n9_
               have GE189 := n10_
               have NB139_189 := n11_
               have NB189_139 := n12_
               have NB145_189 := n13_
               have NB189_145 := n14_
               have NB150_189 := n15_
               have NB189_150 := n16_
               have NB159_189 := n17_
               have NB189_159 := n18_
               have NB160_189 := n19_
               have NB189_160 := n20_
               have NB169_189 := n21_
               have NB189_169 := n22_
               have NB175_189 := n23_
               have NB189_175 := n24_
               clear n0_ n1_ n2_ n3_ n4_ n5_ n6_ n7_ n8_ n9_ n10_ n11_ n12_ n13_ n14_ n15_ n16_ n17_ n18_ n19_ n20_ n21_ n22_ n23_ n24_
               clear hb hbox hg
               refine hK.out _ _ ⟨(blk_cell BK139.out 0).trans rfl, (blk_cell BK139.out 1).trans rfl, (blk_cell BK139.out 2).trans rfl, (blk_cell BK139.out 3).trans rfl, (blk_cell BK160.out 0).trans rfl, (blk_cell BK160.out 1).trans rfl, (blk_cell BK160.out 2).trans rfl, (blk_cell BK160.out 3).trans rfl⟩ (fun hHeld => ?_)
               clear hK K
               refine norm_ (a' := ?_) ?_ ?_
               rotate_left
               ·show Act.put _ (some 10) _ = _
                simp only [Act.put, List.setIfInBounds_toArray, List.set_cons_zero, List.set_cons_succ, i64_w, i32_w]
                rfl
               refine one_ (i := 6) (N := some 46) #[true, true, true, true, true, true, true, false, false, false, true, false, false] rfl rfl (one_of HT_.out (by kernel_rfl)) (by decide) (fun K hK => ?_)
               refine goes_ Try.func18 (by kernel_rfl) rfl #[.agg #[.int .i64 t135, .int .i64 t136, .int .i64 t137, .int .i64 t138], .agg #[.int .i64 t180, .int .i64 t181, .int .i64 t182, .int .i64 t183]] (by rfl) rfl rfl (by (try simp only [List.map_toArray, List.map_cons, List.map_nil]); first | done | rfl | (simp only [List.length_drop, List.length_take]; rfl)) ?_
               with_reducible refine (drive_Reset.calls t135 t136 t137 t138 t180 t181 t182 t183 t184 t185 t186 t187 t188 _ A11.out).mono ?_
               rintro e w87 ⟨rfl, hb⟩
               refine ⟨_, rfl, ?_⟩
               have n0_ := Aside0.mk (bb_ BK139.out hb)
               have n1_ := Aside0.mk (bb_ BK145.out hb)
               have n2_ := Aside0.mk (bb_ BK150.out hb)
               have n3_ := Aside0.mk (bb_ BK159.out hb)
               have n4_ := Aside0.mk (bb_ BK160.out hb)
               have n5_ := Aside0.mk (bb_ BK169.out hb)
               have n6_ := Aside0.mk (bb_ BK175.out hb)
               have n7_ := Aside0.mk (bb_ BK189.out hb)
               have n8_ := Aside0.mk (below_step (by repeat (first | (with_reducible first | exact HB.out | apply below_alloc | apply pw_below_drewN | apply below_drew1 | refine below_set ?_ GE139.out | refine below_set ?_ GE145.out | refine below_set ?_ GE150.out | refine below_set ?_ GE159.out | refine below_set ?_ GE160.out | refine below_set ?_ GE169.out | refine below_set ?_ GE175.out | refine below_set ?_ GE189.out) | exact HB.out)) hb)
               clear BK139
               clear BK145
               clear BK150
               clear BK159
               clear BK160
               clear BK169
               clear BK175
               clear BK189
               clear HB
               have BK139 := n0_
               have BK145 := n1_
               have BK150 := n2_
               have BK159 := n3_
               have BK160 := n4_
               have BK169 := n5_
               have BK175 := n6_
               have BK189 := n7_
               have HB := n8_
               clear n0_ n1_ n2_ n3_ n4_ n5_ n6_ n7_ n8_
               (try clear hb)
               (try clear hb2)
               (try clear hk)
               (try clear hi)
               refine hK.out _ _ ⟨(blk_cell BK139.out 0).trans rfl, (blk_cell BK139.out 1).trans rfl, (blk_cell BK139.out 2).trans rfl, (blk_cell BK139.out 3).trans rfl, (blk_cell BK160.out 0).trans rfl, (blk_cell BK160.out 1).trans rfl, (blk_cell BK160.out 2).trans rfl, (blk_cell BK160.out 3).trans rfl⟩ (fun hHeld => ?_)
               clear hK K
               refine norm_ (a' := ?_) ?_ ?_
               rotate_left
               ·show Act.put _ (some 46) _ = _
                simp only [Act.put, List.setIfInBounds_toArray, List.set_cons_zero, List.set_cons_succ, i64_w, i32_w]
                rfl
               refine pure_ (i := 7) (N := some 39) (v := ?_) (a' := ?_) #[true, true, true, true, true, true, true, true, false, false, true, false, false] rfl rfl (any_of HT_.out (by kernel_rfl)) (fun _ _ _ h => h) (Or.inl ⟨by rfl, ?_⟩) ?_ ?_
               rotate_left
               ·intro w'
                go_simp
                with_reducible rfl
               rotate_left
               ·simp only [Act.put, List.setIfInBounds_toArray, List.set_cons_zero, List.set_cons_succ, i64_w, i32_w]
                rfl
               refine pure_ (i := 8) (N := some 47) (v := ?_) (a' := ?_) #[true, true, true, true, true, true, true, true, true, false, true, false, false] rfl rfl (any_of HT_.out (by kernel_rfl)) (fun _ _ _ h => h) (Or.inl ⟨by rfl, ?_⟩) ?_ ?_
               rotate_left
               ·intro w'
                go_simp
                with_reducible rfl
               rotate_left
               ·simp only [Act.put, List.setIfInBounds_toArray, List.set_cons_zero, List.set_cons_succ, i64_w, i32_w]
                rfl
               refine pure_ (i := 9) (N := some 48) (v := ?_) (a' := ?_) #[true, true, true, true, true, true, true, true, true, true, true, false, false] rfl rfl (any_of HT_.out (by kernel_rfl)) (fun _ _ _ h => h) (Or.inl ⟨by rfl, ?_⟩) ?_ ?_
               rotate_left
               ·intro w'
                go_simp
                with_reducible rfl
               rotate_left
               ·simp only [Act.put, List.setIfInBounds_toArray, List.set_cons_zero, List.set_cons_succ, i64_w, i32_w]
                rfl
               exact norm_ (by simp only [putAll, Act.put, List.setIfInBounds_toArray, List.set_cons_zero, List.set_cons_succ]) (hCont (gb189) _ ⟨hHeld, (by (with_reducible repeat (first | refine blk_drewN ?_ _ | refine blk_drew ?_ | refine blk_alloc ?_ _)); exact BK139.out), (by (with_reducible repeat (first | refine blk_drewN ?_ _ | refine blk_drew ?_ | refine blk_alloc ?_ _)); exact BK145.out), (by (with_reducible repeat (first | refine blk_drewN ?_ _ | refine blk_drew ?_ | refine blk_alloc ?_ _)); exact BK150.out), (by (with_reducible repeat (first | refine blk_drewN ?_ _ | refine blk_drew ?_ | refine blk_alloc ?_ _)); exact BK159.out), (by (with_reducible repeat (first | refine blk_drewN ?_ _ | refine blk_drew ?_ | refine blk_alloc ?_ _)); exact BK160.out), (by (with_reducible repeat (first | refine blk_drewN ?_ _ | refine blk_drew ?_ | refine blk_alloc ?_ _)); exact BK169.out), (by (with_reducible repeat (first | refine blk_drewN ?_ _ | refine blk_drew ?_ | refine blk_alloc ?_ _)); exact BK175.out), (by (with_reducible repeat (first | refine blk_drewN ?_ _ | refine blk_drew ?_ | refine blk_alloc ?_ _)); exact BK189.out), GW189.out, GE189.out, NB139_189.out, NB189_139.out, NB145_189.out, NB189_145.out, NB150_189.out, NB189_150.out, NB159_189.out, NB189_159.out, NB160_189.out, NB189_160.out, NB169_189.out, NB189_169.out, NB175_189.out, NB189_175.out, (by repeat (first | (with_reducible first | exact HB.out | apply below_alloc | apply pw_below_drewN | apply below_drew1 | refine below_set ?_ GE139.out | refine below_set ?_ GE145.out | refine below_set ?_ GE150.out | refine below_set ?_ GE159.out | refine below_set ?_ GE160.out | refine below_set ?_ GE169.out | refine below_set ?_ GE175.out | refine below_set ?_ GE189.out) | exact HB.out))⟩)
             ·skip
              refine box_step ?hg (N := 10) ?hd (cs := #[.int .i64 0, .int .i64 0, .int .i64 0, .int .i64 0]) (t := 25) ?hr ?_; (case hd => rfl); (case hg => rfl); (case hr => first | (go_simp; done) | (go_simp; rfl))
              intro gb189 hg w85 hbox hb
              have n0_ := Aside0.mk (bb_ BK139.out hb)
              have n1_ := Aside0.mk (bb_ BK145.out hb)
              have n2_ := Aside0.mk (bb_ BK150.out hb)
              have n3_ := Aside0.mk (bb_ BK159.out hb)
              have n4_ := Aside0.mk (bb_ BK160.out hb)
              have n5_ := Aside0.mk (bb_ BK169.out hb)
              have n6_ := Aside0.mk (bb_ BK175.out hb)
              have n7_ := Aside0.mk (below_step (by repeat (first | (with_reducible first | exact HB.out | apply below_alloc | apply pw_below_drewN | apply below_drew1 | refine below_set ?_ GE139.out | refine below_set ?_ GE145.out | refine below_set ?_ GE150.out | refine below_set ?_ GE159.out | refine below_set ?_ GE160.out | refine below_set ?_ GE169.out | refine below_set ?_ GE175.out) | exact HB.out)) hb)
              have n8_ := Aside0.mk (hbox)
              have n9_ := Aside0.mk ((by rw [hg]; exact (below_size (by repeat (first | (with_reducible first | exact HB.out | apply below_alloc | apply pw_below_drewN | apply below_drew1 | refine below_set ?_ GE139.out | refine below_set ?_ GE145.out | refine below_set ?_ GE150.out | refine below_set ?_ GE159.out | refine below_set ?_ GE160.out | refine below_set ?_ GE169.out | refine below_set ?_ GE175.out) | exact HB.out))) : w.heap.size ≤ gb189))
              have n10_ := Aside0.mk ((by rw [hg]; exact (below_size (by repeat (first | (with_reducible first | exact HB.out | apply below_alloc | apply pw_below_drewN | apply below_drew1 | refine below_set ?_ GE139.out | refine below_set ?_ GE145.out | refine below_set ?_ GE150.out | refine below_set ?_ GE159.out | refine below_set ?_ GE160.out | refine below_set ?_ GE169.out | refine below_set ?_ GE175.out) | exact HB.out))) : w.heap.size ≤ gb189))
              have n11_ := Aside0.mk ((by rw [hg]; exact Nat.ne_of_lt (blk_lt (g := gb139) (o := .cells #[.int .i64 t135, .int .i64 t136, .int .i64 t137, .int .i64 t138] 23 (0, 0)) (by (with_reducible repeat (first | refine blk_drewN ?_ _ | refine blk_drew ?_ | refine blk_alloc ?_ _)); exact BK139.out)) : gb139 ≠ gb189))
              have n12_ := Aside0.mk ((by rw [hg]; exact Nat.ne_of_gt (blk_lt (g := gb139) (o := .cells #[.int .i64 t135, .int .i64 t136, .int .i64 t137, .int .i64 t138] 23 (0, 0)) (by (with_reducible repeat (first | refine blk_drewN ?_ _ | refine blk_drew ?_ | refine blk_alloc ?_ _)); exact BK139.out)) : gb189 ≠ gb139))
              have n13_ := Aside0.mk ((by rw [hg]; exact Nat.ne_of_lt (blk_lt (g := gb145) (o := .cells #[.int .i64 t140, .int .i64 t141, .int .i64 t142, .int .i64 t143] 25 (0, 0)) (by (with_reducible repeat (first | refine blk_drewN ?_ _ | refine blk_drew ?_ | refine blk_alloc ?_ _)); exact BK145.out)) : gb145 ≠ gb189))
              have n14_ := Aside0.mk ((by rw [hg]; exact Nat.ne_of_gt (blk_lt (g := gb145) (o := .cells #[.int .i64 t140, .int .i64 t141, .int .i64 t142, .int .i64 t143] 25 (0, 0)) (by (with_reducible repeat (first | refine blk_drewN ?_ _ | refine blk_drew ?_ | refine blk_alloc ?_ _)); exact BK145.out)) : gb189 ≠ gb145))
              have n15_ := Aside0.mk ((by rw [hg]; exact Nat.ne_of_lt (blk_lt (g := gb150) (o := .cells #[.int .i64 t146, .int .i64 t147, .int .i64 t148, .int .i64 t149] 25 (0, 0)) (by (with_reducible repeat (first | refine blk_drewN ?_ _ | refine blk_drew ?_ | refine blk_alloc ?_ _)); exact BK150.out)) : gb150 ≠ gb189))
              have n16_ := Aside0.mk ((by rw [hg]; exact Nat.ne_of_gt (blk_lt (g := gb150) (o := .cells #[.int .i64 t146, .int .i64 t147, .int .i64 t148, .int .i64 t149] 25 (0, 0)) (by (with_reducible repeat (first | refine blk_drewN ?_ _ | refine blk_drew ?_ | refine blk_alloc ?_ _)); exact BK150.out)) : gb189 ≠ gb150))
              have n17_ := Aside0.mk ((by rw [hg]; exact Nat.ne_of_lt (blk_lt (g := gb159) (o := .cells #[.int .i64 t155, .int .i64 t156, .int .i64 t157, .int .i64 t158] 25 (0, 0)) (by (with_reducible repeat (first | refine blk_drewN ?_ _ | refine blk_drew ?_ | refine blk_alloc ?_ _)); exact BK159.out)) : gb159 ≠ gb189))
              have n18_ := Aside0.mk ((by rw [hg]; exact Nat.ne_of_gt (blk_lt (g := gb159) (o := .cells #[.int .i64 t155, .int .i64 t156, .int .i64 t157, .int .i64 t158] 25 (0, 0)) (by (with_reducible repeat (first | refine blk_drewN ?_ _ | refine blk_drew ?_ | refine blk_alloc ?_ _)); exact BK159.out)) : gb189 ≠ gb159))
              have n19_ := Aside0.mk ((by rw [hg]; exact Nat.ne_of_lt (blk_lt (g := gb160) (o := .cells #[.int .i64 1, .int .i64 5000, .int .i64 5000, .int .i64 0] 25 (0, 0)) (by (with_reducible repeat (first | refine blk_drewN ?_ _ | refine blk_drew ?_ | refine blk_alloc ?_ _)); exact BK160.out)) : gb160 ≠ gb189))
              have n20_ := Aside0.mk ((by rw [hg]; exact Nat.ne_of_gt (blk_lt (g := gb160) (o := .cells #[.int .i64 1, .int .i64 5000, .int .i64 5000, .int .i64 0] 25 (0, 0)) (by (with_reducible repeat (first | refine blk_drewN ?_ _ | refine blk_drew ?_ | refine blk_alloc ?_ _)); exact BK160.out)) : gb189 ≠ gb160))
              have n21_ := Aside0.mk ((by rw [hg]; exact Nat.ne_of_lt (blk_lt (g := gb169) (o := .cells #[.int .i64 t165, .int .i64 t166, .int .i64 t167, .int .i64 t168] 25 (0, 0)) (by (with_reducible repeat (first | refine blk_drewN ?_ _ | refine blk_drew ?_ | refine blk_alloc ?_ _)); exact BK169.out)) : gb169 ≠ gb189))
              have n22_ := Aside0.mk ((by rw [hg]; exact Nat.ne_of_gt (blk_lt (g := gb169) (o := .cells #[.int .i64 t165, .int .i64 t166, .int .i64 t167, .int .i64 t168] 25 (0, 0)) (by (with_reducible repeat (first | refine blk_drewN ?_ _ | refine blk_drew ?_ | refine blk_alloc ?_ _)); exact BK169.out)) : gb189 ≠ gb169))
              have n23_ := Aside0.mk ((by rw [hg]; exact Nat.ne_of_lt (blk_lt (g := gb175) (o := .cells #[.int .i64 t170, .int .i64 t171, .int .i64 t172, .int .i64 t173] 25 (0, 0)) (by (with_reducible repeat (first | refine blk_drewN ?_ _ | refine blk_drew ?_ | refine blk_alloc ?_ _)); exact BK175.out)) : gb175 ≠ gb189))
              have n24_ := Aside0.mk ((by rw [hg]; exact Nat.ne_of_gt (blk_lt (g := gb175) (o := .cells #[.int .i64 t170, .int .i64 t171, .int .i64 t172, .int .i64 t173] 25 (0, 0)) (by (with_reducible repeat (first | refine blk_drewN ?_ _ | refine blk_drew ?_ | refine blk_alloc ?_ _)); exact BK175.out)) : gb189 ≠ gb175))
              clear BK139
              clear BK145
              clear BK150
              clear BK159
              clear BK160
              clear BK169
              clear BK175
              clear HB
              have BK139 := n0_
              have BK145 := n1_
              have BK150 := n2_
              have BK159 := n3_
              have BK160 := n4_
              have BK169 := n5_
              have BK175 := n6_
              have HB := n7_
              have BK189 := n8_
              have GW189 := n9_
              have GE189 := n10_
              have NB139_189 := n11_
              have NB189_139 := n12_
              have NB145_189 := n13_
              have NB189_145 := n14_
              have NB150_189 := n15_
              have NB189_150 := n16_
              have NB159_189 := n17_
              have NB189_159 := n18_
              have NB160_189 := n19_
              have NB189_160 := n20_
              have NB169_189 := n21_
              have NB189_169 := n22_
              have NB175_189 := n23_
              have NB189_175 := n24_
              clear n0_ n1_ n2_ n3_ n4_ n5_ n6_ n7_ n8_ n9_ n10_ n11_ n12_ n13_ n14_ n15_ n16_ n17_ n18_ n19_ n20_ n21_ n22_ n23_ n24_
              clear hb hbox hg
              refine hK.out _ _ ⟨(blk_cell BK139.out 0).trans rfl, (blk_cell BK139.out 1).trans rfl, (blk_cell BK139.out 2).trans rfl, (blk_cell BK139.out 3).trans rfl, (blk_cell BK160.out 0).trans rfl, (blk_cell BK160.out 1).trans rfl, (blk_cell BK160.out 2).trans rfl, (blk_cell BK160.out 3).trans rfl⟩ (fun hHeld => ?_)
              clear hK K
              refine norm_ (a' := ?_) ?_ ?_
              rotate_left
              ·show Act.put _ (some 10) _ = _
               simp only [Act.put, List.setIfInBounds_toArray, List.set_cons_zero, List.set_cons_succ, i64_w, i32_w]
               rfl
              refine one_ (i := 5) (N := some 45) #[true, true, true, true, true, true, false, false, false, false, true, false, false] rfl rfl (one_of HT_.out (by kernel_rfl)) (by decide) (fun K hK => ?_)
              refine goes_ Try.func24 (by kernel_rfl) rfl #[.agg #[.int .i64 t135, .int .i64 t136, .int .i64 t137, .int .i64 t138], .agg #[.int .i64 t176, .int .i64 t177, .int .i64 t178, .int .i64 t179], .int .i64 3] (by rfl) rfl rfl (by (try simp only [List.map_toArray, List.map_cons, List.map_nil]); first | done | rfl | (simp only [List.length_drop, List.length_take]; rfl)) ?_
              with_reducible refine (drive_Step.calls k t135 t136 t137 t138 t176 t177 t178 t179 3 t180 t181 t182 t183 _ A10.out).mono ?_
              rintro e w86 ⟨rfl, hb⟩
              refine ⟨_, rfl, ?_⟩
              have n0_ := Aside0.mk (bb_ BK139.out hb)
              have n1_ := Aside0.mk (bb_ BK145.out hb)
              have n2_ := Aside0.mk (bb_ BK150.out hb)
              have n3_ := Aside0.mk (bb_ BK159.out hb)
              have n4_ := Aside0.mk (bb_ BK160.out hb)
              have n5_ := Aside0.mk (bb_ BK169.out hb)
              have n6_ := Aside0.mk (bb_ BK175.out hb)
              have n7_ := Aside0.mk (bb_ BK189.out hb)
              have n8_ := Aside0.mk (below_step (by repeat (first | (with_reducible first | exact HB.out | apply below_alloc | apply pw_below_drewN | apply below_drew1 | refine below_set ?_ GE139.out | refine below_set ?_ GE145.out | refine below_set ?_ GE150.out | refine below_set ?_ GE159.out | refine below_set ?_ GE160.out | refine below_set ?_ GE169.out | refine below_set ?_ GE175.out | refine below_set ?_ GE189.out) | exact HB.out)) hb)
              clear BK139
              clear BK145
              clear BK150
              clear BK159
              clear BK160
              clear BK169
              clear BK175
              clear BK189
              clear HB
              have BK139 := n0_
              have BK145 := n1_
              have BK150 := n2_
              have BK159 := n3_
              have BK160 := n4_
              have BK169 := n5_
              have BK175 := n6_
              have BK189 := n7_
              have HB := n8_
              clear n0_ n1_ n2_ n3_ n4_ n5_ n6_ n7_ n8_
              (try clear hb)
              (try clear hb2)
              (try clear hk)
              (try clear hi)
              refine hK.out _ _ ⟨(blk_cell BK139.out 0).trans rfl, (blk_cell BK139.out 1).trans rfl, (blk_cell BK139.out 2).trans rfl, (blk_cell BK139.out 3).trans rfl, (blk_cell BK160.out 0).trans rfl, (blk_cell BK160.out 1).trans rfl, (blk_cell BK160.out 2).trans rfl, (blk_cell BK160.out 3).trans rfl⟩ (fun hHeld => ?_)
              clear hK K
              refine norm_ (a' := ?_) ?_ ?_
              rotate_left
              ·show Act.put _ (some 45) _ = _
               simp only [Act.put, List.setIfInBounds_toArray, List.set_cons_zero, List.set_cons_succ, i64_w, i32_w]
               rfl
              refine one_ (i := 6) (N := some 46) #[true, true, true, true, true, true, true, false, false, false, true, false, false] rfl rfl (one_of HT_.out (by kernel_rfl)) (by decide) (fun K hK => ?_)
              refine goes_ Try.func18 (by kernel_rfl) rfl #[.agg #[.int .i64 t135, .int .i64 t136, .int .i64 t137, .int .i64 t138], .agg #[.int .i64 t180, .int .i64 t181, .int .i64 t182, .int .i64 t183]] (by rfl) rfl rfl (by (try simp only [List.map_toArray, List.map_cons, List.map_nil]); first | done | rfl | (simp only [List.length_drop, List.length_take]; rfl)) ?_
              with_reducible refine (drive_Reset.calls t135 t136 t137 t138 t180 t181 t182 t183 t184 t185 t186 t187 t188 _ A11.out).mono ?_
              rintro e w87 ⟨rfl, hb⟩
              refine ⟨_, rfl, ?_⟩
              have n0_ := Aside0.mk (bb_ BK139.out hb)
              have n1_ := Aside0.mk (bb_ BK145.out hb)
              have n2_ := Aside0.mk (bb_ BK150.out hb)
              have n3_ := Aside0.mk (bb_ BK159.out hb)
              have n4_ := Aside0.mk (bb_ BK160.out hb)
              have n5_ := Aside0.mk (bb_ BK169.out hb)
              have n6_ := Aside0.mk (bb_ BK175.out hb)
              have n7_ := Aside0.mk (bb_ BK189.out hb)
              have n8_ := Aside0.mk (below_step (by repeat (first | (with_reducible first | exact HB.out | apply below_alloc | apply pw_below_drewN | apply below_drew1 | refine below_set ?_ GE139.out | refine below_set ?_ GE145.out | refine below_set ?_ GE150.out | refine below_set ?_ GE159.out | refine below_set ?_ GE160.out | refine below_set ?_ GE169.out | refine below_set ?_ GE175.out | refine below_set ?_ GE189.out) | exact HB.out)) hb)
              clear BK139
              clear BK145
              clear BK150
              clear BK159
              clear BK160
              clear BK169
              clear BK175
              clear BK189
              clear HB
              have BK139 := n0_
              have BK145 := n1_
              have BK150 := n2_
              have BK159 := n3_
              have BK160 := n4_
              have BK169 := n5_
              have BK175 := n6_
              have BK189 := n7_
              have HB := n8_
              clear n0_ n1_ n2_ n3_ n4_ n5_ n6_ n7_ n8_
              (try clear hb)
              (try clear hb2)
              (try clear hk)
              (try clear hi)
              refine hK.out _ _ ⟨(blk_cell BK139.out 0).trans rfl, (blk_cell BK139.out 1).trans rfl, (blk_cell BK139.out 2).trans rfl, (blk_cell BK139.out 3).trans rfl, (blk_cell BK160.out 0).trans rfl, (blk_cell BK160.out 1).trans rfl, (blk_cell BK160.out 2).trans rfl, (blk_cell BK160.out 3).trans rfl⟩ (fun hHeld => ?_)
              clear hK K
              refine norm_ (a' := ?_) ?_ ?_
              rotate_left
              ·show Act.put _ (some 46) _ = _
               simp only [Act.put, List.setIfInBounds_toArray, List.set_cons_zero, List.set_cons_succ, i64_w, i32_w]
               rfl
              refine pure_ (i := 7) (N := some 39) (v := ?_) (a' := ?_) #[true, true, true, true, true, true, true, true, false, false, true, false, false] rfl rfl (any_of HT_.out (by kernel_rfl)) (fun _ _ _ h => h) (Or.inl ⟨by rfl, ?_⟩) ?_ ?_
              rotate_left
              ·intro w'
               go_simp
               with_reducible rfl
              rotate_left
              ·simp only [Act.put, List.setIfInBounds_toArray, List.set_cons_zero, List.set_cons_succ, i64_w, i32_w]
               rfl
              refine pure_ (i := 8) (N := some 47) (v := ?_) (a' := ?_) #[true, true, true, true, true, true, true, true, true, false, true, false, false] rfl rfl (any_of HT_.out (by kernel_rfl)) (fun _ _ _ h => h) (Or.inl ⟨by rfl, ?_⟩) ?_ ?_
              rotate_left
              ·intro w'
               go_simp
               with_reducible rfl
              rotate_left
              ·simp only [Act.put, List.setIfInBounds_toArray, List.set_cons_zero, List.set_cons_succ, i64_w, i32_w]
               rfl
              refine pure_ (i := 9) (N := some 48) (v := ?_) (a' := ?_) #[true, true, true, true, true, true, true, true, true, true, true, false, false] rfl rfl (any_of HT_.out (by kernel_rfl)) (fun _ _ _ h => h) (Or.inl ⟨by rfl, ?_⟩) ?_ ?_
              rotate_left
              ·intro w'
               go_simp
               with_reducible rfl
              rotate_left
              ·simp only [Act.put, List.setIfInBounds_toArray, List.set_cons_zero, List.set_cons_succ, i64_w, i32_w]
               rfl
              exact norm_ (by simp only [putAll, Act.put, List.setIfInBounds_toArray, List.set_cons_zero, List.set_cons_succ]) (hCont (gb189) _ ⟨hHeld, (by (with_reducible repeat (first | refine blk_drewN ?_ _ | refine blk_drew ?_ | refine blk_alloc ?_ _)); exact BK139.out), (by (with_reducible repeat (first | refine blk_drewN ?_ _ | refine blk_drew ?_ | refine blk_alloc ?_ _)); exact BK145.out), (by (with_reducible repeat (first | refine blk_drewN ?_ _ | refine blk_drew ?_ | refine blk_alloc ?_ _)); exact BK150.out), (by (with_reducible repeat (first | refine blk_drewN ?_ _ | refine blk_drew ?_ | refine blk_alloc ?_ _)); exact BK159.out), (by (with_reducible repeat (first | refine blk_drewN ?_ _ | refine blk_drew ?_ | refine blk_alloc ?_ _)); exact BK160.out), (by (with_reducible repeat (first | refine blk_drewN ?_ _ | refine blk_drew ?_ | refine blk_alloc ?_ _)); exact BK169.out), (by (with_reducible repeat (first | refine blk_drewN ?_ _ | refine blk_drew ?_ | refine blk_alloc ?_ _)); exact BK175.out), (by (with_reducible repeat (first | refine blk_drewN ?_ _ | refine blk_drew ?_ | refine blk_alloc ?_ _)); exact BK189.out), GW189.out, GE189.out, NB139_189.out, NB189_139.out, NB145_189.out, NB189_145.out, NB150_189.out, NB189_150.out, NB159_189.out, NB189_159.out, NB160_189.out, NB189_160.out, NB169_189.out, NB189_169.out, NB175_189.out, NB189_175.out, (by repeat (first | (with_reducible first | exact HB.out | apply below_alloc | apply pw_below_drewN | apply below_drew1 | refine below_set ?_ GE139.out | refine below_set ?_ GE145.out | refine below_set ?_ GE150.out | refine below_set ?_ GE159.out | refine below_set ?_ GE160.out | refine below_set ?_ GE169.out | refine below_set ?_ GE175.out | refine below_set ?_ GE189.out) | exact HB.out))⟩)
            ·skip
             refine box_step ?hg (N := 10) ?hd (cs := #[.int .i64 0, .int .i64 0, .int .i64 0, .int .i64 0]) (t := 25) ?hr ?_; (case hd => rfl); (case hg => rfl); (case hr => first | (go_simp; done) | (go_simp; rfl))
             intro gb189 hg w84 hbox hb
             have n0_ := Aside0.mk (bb_ BK139.out hb)
             have n1_ := Aside0.mk (bb_ BK145.out hb)
             have n2_ := Aside0.mk (bb_ BK150.out hb)
             have n3_ := Aside0.mk (bb_ BK159.out hb)
             have n4_ := Aside0.mk (bb_ BK160.out hb)
             have n5_ := Aside0.mk (bb_ BK169.out hb)
             have n6_ := Aside0.mk (bb_ BK175.out hb)
             have n7_ := Aside0.mk (below_step (by repeat (first | (with_reducible first | exact HB.out | apply below_alloc | apply pw_below_drewN | apply below_drew1 | refine below_set ?_ GE139.out | refine below_set ?_ GE145.out | refine below_set ?_ GE150.out | refine below_set ?_ GE159.out | refine below_set ?_ GE160.out | refine below_set ?_ GE169.out | refine below_set ?_ GE175.out) | exact HB.out)) hb)
             have n8_ := Aside0.mk (hbox)
             have n9_ := Aside0.mk ((by rw [hg]; exact (below_size (by repeat (first | (with_reducible first | exact HB.out | apply below_alloc | apply pw_below_drewN | apply below_drew1 | refine below_set ?_ GE139.out | refine below_set ?_ GE145.out | refine below_set ?_ GE150.out | refine below_set ?_ GE159.out | refine below_set ?_ GE160.out | refine below_set ?_ GE169.out | refine below_set ?_ GE175.out) | exact HB.out))) : w.heap.size ≤ gb189))
             have n10_ := Aside0.mk ((by rw [hg]; exact (below_size (by repeat (first | (with_reducible first | exact HB.out | apply below_alloc | apply pw_below_drewN | apply below_drew1 | refine below_set ?_ GE139.out | refine below_set ?_ GE145.out | refine below_set ?_ GE150.out | refine below_set ?_ GE159.out | refine below_set ?_ GE160.out | refine below_set ?_ GE169.out | refine below_set ?_ GE175.out) | exact HB.out))) : w.heap.size ≤ gb189))
             have n11_ := Aside0.mk ((by rw [hg]; exact Nat.ne_of_lt (blk_lt (g := gb139) (o := .cells #[.int .i64 t135, .int .i64 t136, .int .i64 t137, .int .i64 t138] 23 (0, 0)) (by (with_reducible repeat (first | refine blk_drewN ?_ _ | refine blk_drew ?_ | refine blk_alloc ?_ _)); exact BK139.out)) : gb139 ≠ gb189))
             have n12_ := Aside0.mk ((by rw [hg]; exact Nat.ne_of_gt (blk_lt (g := gb139) (o := .cells #[.int .i64 t135, .int .i64 t136, .int .i64 t137, .int .i64 t138] 23 (0, 0)) (by (with_reducible repeat (first | refine blk_drewN ?_ _ | refine blk_drew ?_ | refine blk_alloc ?_ _)); exact BK139.out)) : gb189 ≠ gb139))
             have n13_ := Aside0.mk ((by rw [hg]; exact Nat.ne_of_lt (blk_lt (g := gb145) (o := .cells #[.int .i64 t140, .int .i64 t141, .int .i64 t142, .int .i64 t143] 25 (0, 0)) (by (with_reducible repeat (first | refine blk_drewN ?_ _ | refine blk_drew ?_ | refine blk_alloc ?_ _)); exact BK145.out)) : gb145 ≠ gb189))
             have n14_ := Aside0.mk ((by rw [hg]; exact Nat.ne_of_gt (blk_lt (g := gb145) (o := .cells #[.int .i64 t140, .int .i64 t141, .int .i64 t142, .int .i64 t143] 25 (0, 0)) (by (with_reducible repeat (first | refine blk_drewN ?_ _ | refine blk_drew ?_ | refine blk_alloc ?_ _)); exact BK145.out)) : gb189 ≠ gb145))
             have n15_ := Aside0.mk ((by rw [hg]; exact Nat.ne_of_lt (blk_lt (g := gb150) (o := .cells #[.int .i64 t146, .int .i64 t147, .int .i64 t148, .int .i64 t149] 25 (0, 0)) (by (with_reducible repeat (first | refine blk_drewN ?_ _ | refine blk_drew ?_ | refine blk_alloc ?_ _)); exact BK150.out)) : gb150 ≠ gb189))
             have n16_ := Aside0.mk ((by rw [hg]; exact Nat.ne_of_gt (blk_lt (g := gb150) (o := .cells #[.int .i64 t146, .int .i64 t147, .int .i64 t148, .int .i64 t149] 25 (0, 0)) (by (with_reducible repeat (first | refine blk_drewN ?_ _ | refine blk_drew ?_ | refine blk_alloc ?_ _)); exact BK150.out)) : gb189 ≠ gb150))
             have n17_ := Aside0.mk ((by rw [hg]; exact Nat.ne_of_lt (blk_lt (g := gb159) (o := .cells #[.int .i64 t155, .int .i64 t156, .int .i64 t157, .int .i64 t158] 25 (0, 0)) (by (with_reducible repeat (first | refine blk_drewN ?_ _ | refine blk_drew ?_ | refine blk_alloc ?_ _)); exact BK159.out)) : gb159 ≠ gb189))
             have n18_ := Aside0.mk ((by rw [hg]; exact Nat.ne_of_gt (blk_lt (g := gb159) (o := .cells #[.int .i64 t155, .int .i64 t156, .int .i64 t157, .int .i64 t158] 25 (0, 0)) (by (with_reducible repeat (first | refine blk_drewN ?_ _ | refine blk_drew ?_ | refine blk_alloc ?_ _)); exact BK159.out)) : gb189 ≠ gb159))
             have n19_ := Aside0.mk ((by rw [hg]; exact Nat.ne_of_lt (blk_lt (g := gb160) (o := .cells #[.int .i64 1, .int .i64 5000, .int .i64 5000, .int .i64 0] 25 (0, 0)) (by (with_reducible repeat (first | refine blk_drewN ?_ _ | refine blk_drew ?_ | refine blk_alloc ?_ _)); exact BK160.out)) : gb160 ≠ gb189))
             have n20_ := Aside0.mk ((by rw [hg]; exact Nat.ne_of_gt (blk_lt (g := gb160) (o := .cells #[.int .i64 1, .int .i64 5000, .int .i64 5000, .int .i64 0] 25 (0, 0)) (by (with_reducible repeat (first | refine blk_drewN ?_ _ | refine blk_drew ?_ | refine blk_alloc ?_ _)); exact BK160.out)) : gb189 ≠ gb160))
             have n21_ := Aside0.mk ((by rw [hg]; exact Nat.ne_of_lt (blk_lt (g := gb169) (o := .cells #[.int .i64 t165, .int .i64 t166, .int .i64 t167, .int .i64 t168] 25 (0, 0)) (by (with_reducible repeat (first | refine blk_drewN ?_ _ | refine blk_drew ?_ | refine blk_alloc ?_ _)); exact BK169.out)) : gb169 ≠ gb189))
             have n22_ := Aside0.mk ((by rw [hg]; exact Nat.ne_of_gt (blk_lt (g := gb169) (o := .cells #[.int .i64 t165, .int .i64 t166, .int .i64 t167, .int .i64 t168] 25 (0, 0)) (by (with_reducible repeat (first | refine blk_drewN ?_ _ | refine blk_drew ?_ | refine blk_alloc ?_ _)); exact BK169.out)) : gb189 ≠ gb169))
             have n23_ := Aside0.mk ((by rw [hg]; exact Nat.ne_of_lt (blk_lt (g := gb175) (o := .cells #[.int .i64 t170, .int .i64 t171, .int .i64 t172, .int .i64 t173] 25 (0, 0)) (by (with_reducible repeat (first | refine blk_drewN ?_ _ | refine blk_drew ?_ | refine blk_alloc ?_ _)); exact BK175.out)) : gb175 ≠ gb189))
             have n24_ := Aside0.mk ((by rw [hg]; exact Nat.ne_of_gt (blk_lt (g := gb175) (o := .cells #[.int .i64 t170, .int .i64 t171, .int .i64 t172, .int .i64 t173] 25 (0, 0)) (by (with_reducible repeat (first | refine blk_drewN ?_ _ | refine blk_drew ?_ | refine blk_alloc ?_ _)); exact BK175.out)) : gb189 ≠ gb175))
             clear BK139
             clear BK145
             clear BK150
             clear BK159
             clear BK160
             clear BK169
             clear BK175
             clear HB
             have BK139 := n0_
             have BK145 := n1_
             have BK150 := n2_
             have BK159 := n3_
             have BK160 := n4_
             have BK169 := n5_
             have BK175 := n6_
             have HB := n7_
             have BK189 := n8_
             have GW189 := n9_
             have GE189 := n10_
             have NB139_189 := n11_
             have NB189_139 := n12_
             have NB145_189 := n13_
             have NB189_145 := n14_
             have NB150_189 := n15_
             have NB189_150 := n16_
             have NB159_189 := n17_
             have NB189_159 := n18_
             have NB160_189 := n19_
             have NB189_160 := n20_
             have NB169_189 := n21_
             have NB189_169 := n22_
             have NB175_189 := n23_
             have NB189_175 := n24_
             clear n0_ n1_ n2_ n3_ n4_ n5_ n6_ n7_ n8_ n9_ n10_ n11_ n12_ n13_ n14_ n15_ n16_ n17_ n18_ n19_ n20_ n21_ n22_ n23_ n24_
             clear hb hbox hg
             refine hK.out _ _ ⟨(blk_cell BK139.out 0).trans rfl, (blk_cell BK139.out 1).trans rfl, (blk_cell BK139.out 2).trans rfl, (blk_cell BK139.out 3).trans rfl, (blk_cell BK160.out 0).trans rfl, (blk_cell BK160.out 1).trans rfl, (blk_cell BK160.out 2).trans rfl, (blk_cell BK160.out 3).trans rfl⟩ (fun hHeld => ?_)
             clear hK K
             refine norm_ (a' := ?_) ?_ ?_
             rotate_left
             ·show Act.put _ (some 10) _ = _
              simp only [Act.put, List.setIfInBounds_toArray, List.set_cons_zero, List.set_cons_succ, i64_w, i32_w]
              rfl
             refine one_ (i := 4) (N := some 44) #[true, true, true, true, true, false, false, false, false, false, true, false, false] rfl rfl (one_of HT_.out (by kernel_rfl)) (by decide) (fun K hK => ?_)
             refine goes_ Try.func22 (by kernel_rfl) rfl #[.agg #[.int .i64 t135, .int .i64 t136, .int .i64 t137, .int .i64 t138], .agg #[.int .i64 1, .int .i64 5000, .int .i64 5000, .int .i64 0]] (by rfl) rfl rfl (by (try simp only [List.map_toArray, List.map_cons, List.map_nil]); first | done | rfl | (simp only [List.length_drop, List.length_take]; rfl)) ?_
             with_reducible refine (drive_Emergency.calls t135 t136 t137 t138 1 5000 5000 0 t176 t177 t178 t179 _ A9.out).mono ?_
             rintro e w85 ⟨rfl, hb⟩
             refine ⟨_, rfl, ?_⟩
             have n0_ := Aside0.mk (bb_ BK139.out hb)
             have n1_ := Aside0.mk (bb_ BK145.out hb)
             have n2_ := Aside0.mk (bb_ BK150.out hb)
             have n3_ := Aside0.mk (bb_ BK159.out hb)
             have n4_ := Aside0.mk (bb_ BK160.out hb)
             have n5_ := Aside0.mk (bb_ BK169.out hb)
             have n6_ := Aside0.mk (bb_ BK175.out hb)
             have n7_ := Aside0.mk (bb_ BK189.out hb)
             have n8_ := Aside0.mk (below_step (by repeat (first | (with_reducible first | exact HB.out | apply below_alloc | apply pw_below_drewN | apply below_drew1 | refine below_set ?_ GE139.out | refine below_set ?_ GE145.out | refine below_set ?_ GE150.out | refine below_set ?_ GE159.out | refine below_set ?_ GE160.out | refine below_set ?_ GE169.out | refine below_set ?_ GE175.out | refine below_set ?_ GE189.out) | exact HB.out)) hb)
             clear BK139
             clear BK145
             clear BK150
             clear BK159
             clear BK160
             clear BK169
             clear BK175
             clear BK189
             clear HB
             have BK139 := n0_
             have BK145 := n1_
             have BK150 := n2_
             have BK159 := n3_
             have BK160 := n4_
             have BK169 := n5_
             have BK175 := n6_
             have BK189 := n7_
             have HB := n8_
             clear n0_ n1_ n2_ n3_ n4_ n5_ n6_ n7_ n8_
             (try clear hb)
             (try clear hb2)
             (try clear hk)
             (try clear hi)
             refine hK.out _ _ ⟨(blk_cell BK139.out 0).trans rfl, (blk_cell BK139.out 1).trans rfl, (blk_cell BK139.out 2).trans rfl, (blk_cell BK139.out 3).trans rfl, (blk_cell BK160.out 0).trans rfl, (blk_cell BK160.out 1).trans rfl, (blk_cell BK160.out 2).trans rfl, (blk_cell BK160.out 3).trans rfl⟩ (fun hHeld => ?_)
             clear hK K
             refine norm_ (a' := ?_) ?_ ?_
             rotate_left
             ·show Act.put _ (some 44) _ = _
              simp only [Act.put, List.setIfInBounds_toArray, List.set_cons_zero, List.set_cons_succ, i64_w, i32_w]
              rfl
             refine one_ (i := 5) (N := some 45) #[true, true, true, true, true, true, false, false, false, false, true, false, false] rfl rfl (one_of HT_.out (by kernel_rfl)) (by decide) (fun K hK => ?_)
             refine goes_ Try.func24 (by kernel_rfl) rfl #[.agg #[.int .i64 t135, .int .i64 t136, .int .i64 t137, .int .i64 t138], .agg #[.int .i64 t176, .int .i64 t177, .int .i64 t178, .int .i64 t179], .int .i64 3] (by rfl) rfl rfl (by (try simp only [List.map_toArray, List.map_cons, List.map_nil]); first | done | rfl | (simp only [List.length_drop, List.length_take]; rfl)) ?_
             with_reducible refine (drive_Step.calls k t135 t136 t137 t138 t176 t177 t178 t179 3 t180 t181 t182 t183 _ A10.out).mono ?_
             rintro e w86 ⟨rfl, hb⟩
             refine ⟨_, rfl, ?_⟩
             have n0_ := Aside0.mk (bb_ BK139.out hb)
             have n1_ := Aside0.mk (bb_ BK145.out hb)
             have n2_ := Aside0.mk (bb_ BK150.out hb)
             have n3_ := Aside0.mk (bb_ BK159.out hb)
             have n4_ := Aside0.mk (bb_ BK160.out hb)
             have n5_ := Aside0.mk (bb_ BK169.out hb)
             have n6_ := Aside0.mk (bb_ BK175.out hb)
             have n7_ := Aside0.mk (bb_ BK189.out hb)
             have n8_ := Aside0.mk (below_step (by repeat (first | (with_reducible first | exact HB.out | apply below_alloc | apply pw_below_drewN | apply below_drew1 | refine below_set ?_ GE139.out | refine below_set ?_ GE145.out | refine below_set ?_ GE150.out | refine below_set ?_ GE159.out | refine below_set ?_ GE160.out | refine below_set ?_ GE169.out | refine below_set ?_ GE175.out | refine below_set ?_ GE189.out) | exact HB.out)) hb)
             clear BK139
             clear BK145
             clear BK150
             clear BK159
             clear BK160
             clear BK169
             clear BK175
             clear BK189
             clear HB
             have BK139 := n0_
             have BK145 := n1_
             have BK150 := n2_
             have BK159 := n3_
             have BK160 := n4_
             have BK169 := n5_
             have BK175 := n6_
             have BK189 := n7_
             have HB := n8_
             clear n0_ n1_ n2_ n3_ n4_ n5_ n6_ n7_ n8_
             (try clear hb)
             (try clear hb2)
             (try clear hk)
             (try clear hi)
             refine hK.out _ _ ⟨(blk_cell BK139.out 0).trans rfl, (blk_cell BK139.out 1).trans rfl, (blk_cell BK139.out 2).trans rfl, (blk_cell BK139.out 3).trans rfl, (blk_cell BK160.out 0).trans rfl, (blk_cell BK160.out 1).trans rfl, (blk_cell BK160.out 2).trans rfl, (blk_cell BK160.out 3).trans rfl⟩ (fun hHeld => ?_)
             clear hK K
             refine norm_ (a' := ?_) ?_ ?_
             rotate_left
             ·show Act.put _ (some 45) _ = _
              simp only [Act.put, List.setIfInBounds_toArray, List.set_cons_zero, List.set_cons_succ, i64_w, i32_w]
              rfl
             refine one_ (i := 6) (N := some 46) #[true, true, true, true, true, true, true, false, false, false, true, false, false] rfl rfl (one_of HT_.out (by kernel_rfl)) (by decide) (fun K hK => ?_)
             refine goes_ Try.func18 (by kernel_rfl) rfl #[.agg #[.int .i64 t135, .int .i64 t136, .int .i64 t137, .int .i64 t138], .agg #[.int .i64 t180, .int .i64 t181, .int .i64 t182, .int .i64 t183]] (by rfl) rfl rfl (by (try simp only [List.map_toArray, List.map_cons, List.map_nil]); first | done | rfl | (simp only [List.length_drop, List.length_take]; rfl)) ?_
             with_reducible refine (drive_Reset.calls t135 t136 t137 t138 t180 t181 t182 t183 t184 t185 t186 t187 t188 _ A11.out).mono ?_
             rintro e w87 ⟨rfl, hb⟩
             refine ⟨_, rfl, ?_⟩
             have n0_ := Aside0.mk (bb_ BK139.out hb)
             have n1_ := Aside0.mk (bb_ BK145.out hb)
             have n2_ := Aside0.mk (bb_ BK150.out hb)
             have n3_ := Aside0.mk (bb_ BK159.out hb)
             have n4_ := Aside0.mk (bb_ BK160.out hb)
             have n5_ := Aside0.mk (bb_ BK169.out hb)
             have n6_ := Aside0.mk (bb_ BK175.out hb)
             have n7_ := Aside0.mk (bb_ BK189.out hb)
             have n8_ := Aside0.mk (below_step (by repeat (first | (with_reducible first | exact HB.out | apply below_alloc | apply pw_below_drewN | apply below_drew1 | refine below_set ?_ GE139.out | refine below_set ?_ GE145.out | refine below_set ?_ GE150.out | refine below_set ?_ GE159.out | refine below_set ?_ GE160.out | refine below_set ?_ GE169.out | refine below_set ?_ GE175.out | refine below_set ?_ GE189.out) | exact HB.out)) hb)
             clear BK139
             clear BK145
             clear BK150
             clear BK159
             clear BK160
             clear BK169
             clear BK175
             clear BK189
             clear HB
             have BK139 := n0_
             have BK145 := n1_
             have BK150 := n2_
             have BK159 := n3_
             have BK160 := n4_
             have BK169 := n5_
             have BK175 := n6_
             have BK189 := n7_
             have HB := n8_
             clear n0_ n1_ n2_ n3_ n4_ n5_ n6_ n7_ n8_
             (try clear hb)
             (try clear hb2)
             (try clear hk)
             (try clear hi)
             refine hK.out _ _ ⟨(blk_cell BK139.out 0).trans rfl, (blk_cell BK139.out 1).trans rfl, (blk_cell BK139.out 2).trans rfl, (blk_cell BK139.out 3).trans rfl, (blk_cell BK160.out 0).trans rfl, (blk_cell BK160.out 1).trans rfl, (blk_cell BK160.out 2).trans rfl, (blk_cell BK160.out 3).trans rfl⟩ (fun hHeld => ?_)
             clear hK K
             refine norm_ (a' := ?_) ?_ ?_
             rotate_left
             ·show Act.put _ (some 46) _ = _
              simp only [Act.put, List.setIfInBounds_toArray, List.set_cons_zero, List.set_cons_succ, i64_w, i32_w]
              rfl
             refine pure_ (i := 7) (N := some 39) (v := ?_) (a' := ?_) #[true, true, true, true, true, true, true, true, false, false, true, false, false] rfl rfl (any_of HT_.out (by kernel_rfl)) (fun _ _ _ h => h) (Or.inl ⟨by rfl, ?_⟩) ?_ ?_
             rotate_left
             ·intro w'
              go_simp
              with_reducible rfl
             rotate_left
             ·simp only [Act.put, List.setIfInBounds_toArray, List.set_cons_zero, List.set_cons_succ, i64_w, i32_w]
              rfl
             refine pure_ (i := 8) (N := some 47) (v := ?_) (a' := ?_) #[true, true, true, true, true, true, true, true, true, false, true, false, false] rfl rfl (any_of HT_.out (by kernel_rfl)) (fun _ _ _ h => h) (Or.inl ⟨by rfl, ?_⟩) ?_ ?_
             rotate_left
             ·intro w'
              go_simp
              with_reducible rfl
             rotate_left
             ·simp only [Act.put, List.setIfInBounds_toArray, List.set_cons_zero, List.set_cons_succ, i64_w, i32_w]
              rfl
             refine pure_ (i := 9) (N := some 48) (v := ?_) (a' := ?_) #[true, true, true, true, true, true, true, true, true, true, true, false, false] rfl rfl (any_of HT_.out (by kernel_rfl)) (fun _ _ _ h => h) (Or.inl ⟨by rfl, ?_⟩) ?_ ?_
             rotate_left
             ·intro w'
              go_simp
              with_reducible rfl
             rotate_left
             ·simp only [Act.put, List.setIfInBounds_toArray, List.set_cons_zero, List.set_cons_succ, i64_w, i32_w]
              rfl
             exact norm_ (by simp only [putAll, Act.put, List.setIfInBounds_toArray, List.set_cons_zero, List.set_cons_succ]) (hCont (gb189) _ ⟨hHeld, (by (with_reducible repeat (first | refine blk_drewN ?_ _ | refine blk_drew ?_ | refine blk_alloc ?_ _)); exact BK139.out), (by (with_reducible repeat (first | refine blk_drewN ?_ _ | refine blk_drew ?_ | refine blk_alloc ?_ _)); exact BK145.out), (by (with_reducible repeat (first | refine blk_drewN ?_ _ | refine blk_drew ?_ | refine blk_alloc ?_ _)); exact BK150.out), (by (with_reducible repeat (first | refine blk_drewN ?_ _ | refine blk_drew ?_ | refine blk_alloc ?_ _)); exact BK159.out), (by (with_reducible repeat (first | refine blk_drewN ?_ _ | refine blk_drew ?_ | refine blk_alloc ?_ _)); exact BK160.out), (by (with_reducible repeat (first | refine blk_drewN ?_ _ | refine blk_drew ?_ | refine blk_alloc ?_ _)); exact BK169.out), (by (with_reducible repeat (first | refine blk_drewN ?_ _ | refine blk_drew ?_ | refine blk_alloc ?_ _)); exact BK175.out), (by (with_reducible repeat (first | refine blk_drewN ?_ _ | refine blk_drew ?_ | refine blk_alloc ?_ _)); exact BK189.out), GW189.out, GE189.out, NB139_189.out, NB189_139.out, NB145_189.out, NB189_145.out, NB150_189.out, NB189_150.out, NB159_189.out, NB189_159.out, NB160_189.out, NB189_160.out, NB169_189.out, NB189_169.out, NB175_189.out, NB189_175.out, (by repeat (first | (with_reducible first | exact HB.out | apply below_alloc | apply pw_below_drewN | apply below_drew1 | refine below_set ?_ GE139.out | refine below_set ?_ GE145.out | refine below_set ?_ GE150.out | refine below_set ?_ GE159.out | refine below_set ?_ GE160.out | refine below_set ?_ GE169.out | refine below_set ?_ GE175.out | refine below_set ?_ GE189.out) | exact HB.out))⟩)
           rintro gb189 w88 ⟨hS_, h0_, h1_, h2_, h3_, h4_, h5_, h6_, h7_, h8_, h9_, h10_, h11_, h12_, h13_, h14_, h15_, h16_, h17_, h18_, h19_, h20_, h21_, h22_, h23_, h24_⟩
           have n0_ : Aside0 (w88.heap[gb139]? = some (.cells #[.int .i64 t135, .int .i64 t136, .int .i64 t137, .int .i64 t138] 23 (0, 0))) := ⟨h0_⟩
           have n1_ : Aside0 (w88.heap[gb145]? = some (.cells #[.int .i64 t140, .int .i64 t141, .int .i64 t142, .int .i64 t143] 25 (0, 0))) := ⟨h1_⟩
           have n2_ : Aside0 (w88.heap[gb150]? = some (.cells #[.int .i64 t146, .int .i64 t147, .int .i64 t148, .int .i64 t149] 25 (0, 0))) := ⟨h2_⟩
           have n3_ : Aside0 (w88.heap[gb159]? = some (.cells #[.int .i64 t155, .int .i64 t156, .int .i64 t157, .int .i64 t158] 25 (0, 0))) := ⟨h3_⟩
           have n4_ : Aside0 (w88.heap[gb160]? = some (.cells #[.int .i64 1, .int .i64 5000, .int .i64 5000, .int .i64 0] 25 (0, 0))) := ⟨h4_⟩
           have n5_ : Aside0 (w88.heap[gb169]? = some (.cells #[.int .i64 t165, .int .i64 t166, .int .i64 t167, .int .i64 t168] 25 (0, 0))) := ⟨h5_⟩
           have n6_ : Aside0 (w88.heap[gb175]? = some (.cells #[.int .i64 t170, .int .i64 t171, .int .i64 t172, .int .i64 t173] 25 (0, 0))) := ⟨h6_⟩
           have n7_ : Aside0 (w88.heap[gb189]? = some (.cells #[.int .i64 0, .int .i64 0, .int .i64 0, .int .i64 0] 25 (0, 0))) := ⟨h7_⟩
           have n8_ : Aside0 (w.heap.size ≤ gb189) := ⟨h8_⟩
           have n9_ : Aside0 (w.heap.size ≤ gb189) := ⟨h9_⟩
           have n10_ : Aside0 (gb139 ≠ gb189) := ⟨h10_⟩
           have n11_ : Aside0 (gb189 ≠ gb139) := ⟨h11_⟩
           have n12_ : Aside0 (gb145 ≠ gb189) := ⟨h12_⟩
           have n13_ : Aside0 (gb189 ≠ gb145) := ⟨h13_⟩
           have n14_ : Aside0 (gb150 ≠ gb189) := ⟨h14_⟩
           have n15_ : Aside0 (gb189 ≠ gb150) := ⟨h15_⟩
           have n16_ : Aside0 (gb159 ≠ gb189) := ⟨h16_⟩
           have n17_ : Aside0 (gb189 ≠ gb159) := ⟨h17_⟩
           have n18_ : Aside0 (gb160 ≠ gb189) := ⟨h18_⟩
           have n19_ : Aside0 (gb189 ≠ gb160) := ⟨h19_⟩
           have n20_ : Aside0 (gb169 ≠ gb189) := ⟨h20_⟩
           have n21_ : Aside0 (gb189 ≠ gb169) := ⟨h21_⟩
           have n22_ : Aside0 (gb175 ≠ gb189) := ⟨h22_⟩
           have n23_ : Aside0 (gb189 ≠ gb175) := ⟨h23_⟩
           have n24_ : Aside0 (Below w.heap.size w w88) := ⟨h24_⟩
           clear BK139
           clear BK145
           clear BK150
           clear BK159
           clear BK160
           clear BK169
           clear BK175
           clear HB
           clear h0_ h1_ h2_ h3_ h4_ h5_ h6_ h7_ h8_ h9_ h10_ h11_ h12_ h13_ h14_ h15_ h16_ h17_ h18_ h19_ h20_ h21_ h22_ h23_ h24_
           have BK139 := n0_
           have BK145 := n1_
           have BK150 := n2_
           have BK159 := n3_
           have BK160 := n4_
           have BK169 := n5_
           have BK175 := n6_
           have BK189 := n7_
           have GW189 := n8_
           have GE189 := n9_
           have NB139_189 := n10_
           have NB189_139 := n11_
           have NB145_189 := n12_
           have NB189_145 := n13_
           have NB150_189 := n14_
           have NB189_150 := n15_
           have NB159_189 := n16_
           have NB189_159 := n17_
           have NB160_189 := n18_
           have NB189_160 := n19_
           have NB169_189 := n20_
           have NB189_169 := n21_
           have NB175_189 := n22_
           have NB189_175 := n23_
           have HB := n24_
           clear n0_ n1_ n2_ n3_ n4_ n5_ n6_ n7_ n8_ n9_ n10_ n11_ n12_ n13_ n14_ n15_ n16_ n17_ n18_ n19_ n20_ n21_ n22_ n23_ n24_
           have hHeld : w88.cell? ⟨gb139, 0, none⟩ = some (.int .i64 t135) ∧ w88.cell? ⟨gb139, 1, none⟩ = some (.int .i64 t136) ∧ w88.cell? ⟨gb139, 2, none⟩ = some (.int .i64 t137) ∧ w88.cell? ⟨gb139, 3, none⟩ = some (.int .i64 t138) ∧ w88.cell? ⟨gb160, 0, none⟩ = some (.int .i64 1) ∧ w88.cell? ⟨gb160, 1, none⟩ = some (.int .i64 5000) ∧ w88.cell? ⟨gb160, 2, none⟩ = some (.int .i64 5000) ∧ w88.cell? ⟨gb160, 3, none⟩ = some (.int .i64 0) := hS_
           refine norm_ (a' := ?_) ?_ ?_
           rotate_left
           ·simp only [putAll, Act.put, List.setIfInBounds_toArray, List.set_cons_zero, List.set_cons_succ]
            rfl
           refine one_ (i := 11) (N := none) #[true, true, true, true, true, true, true, true, true, true, true, true, false] rfl rfl (one_of HT_.out (by kernel_rfl)) (by decide) (fun K hK => ?_)
           have hs89 : w88.cell? ⟨gb189, 0, none⟩ = some (.int .i64 0) := (blk_cell BK189.out 0).trans rfl
           have hfs89 := blk_frozen BK189.out 0
           have hns89_0 := NB139_189.out
           have hns89_1 := NB145_189.out
           have hns89_2 := NB150_189.out
           have hns89_3 := NB159_189.out
           have hns89_4 := NB160_189.out
           have hns89_5 := NB169_189.out
           have hns89_6 := NB175_189.out
           have hms89_0 := NB189_139.out
           have hms89_1 := NB189_145.out
           have hms89_2 := NB189_150.out
           have hms89_3 := NB189_159.out
           have hms89_4 := NB189_160.out
           have hms89_5 := NB189_169.out
           have hms89_6 := NB189_175.out
           have hs90 : w88.cell? ⟨gb189, 1, none⟩ = some (.int .i64 0) := (blk_cell BK189.out 1).trans rfl
           have hfs90 := blk_frozen BK189.out 1
           have hns90_0 := NB139_189.out
           have hns90_1 := NB145_189.out
           have hns90_2 := NB150_189.out
           have hns90_3 := NB159_189.out
           have hns90_4 := NB160_189.out
           have hns90_5 := NB169_189.out
           have hns90_6 := NB175_189.out
           have hms90_0 := NB189_139.out
           have hms90_1 := NB189_145.out
           have hms90_2 := NB189_150.out
           have hms90_3 := NB189_159.out
           have hms90_4 := NB189_160.out
           have hms90_5 := NB189_169.out
           have hms90_6 := NB189_175.out
           have hs91 : w88.cell? ⟨gb189, 2, none⟩ = some (.int .i64 0) := (blk_cell BK189.out 2).trans rfl
           have hfs91 := blk_frozen BK189.out 2
           have hns91_0 := NB139_189.out
           have hns91_1 := NB145_189.out
           have hns91_2 := NB150_189.out
           have hns91_3 := NB159_189.out
           have hns91_4 := NB160_189.out
           have hns91_5 := NB169_189.out
           have hns91_6 := NB175_189.out
           have hms91_0 := NB189_139.out
           have hms91_1 := NB189_145.out
           have hms91_2 := NB189_150.out
           have hms91_3 := NB189_159.out
           have hms91_4 := NB189_160.out
           have hms91_5 := NB189_169.out
           have hms91_6 := NB189_175.out
           have hs92 : w88.cell? ⟨gb189, 3, none⟩ = some (.int .i64 0) := (blk_cell BK189.out 3).trans rfl
           have hfs92 := blk_frozen BK189.out 3
           have hns92_0 := NB139_189.out
           have hns92_1 := NB145_189.out
           have hns92_2 := NB150_189.out
           have hns92_3 := NB159_189.out
           have hns92_4 := NB160_189.out
           have hns92_5 := NB169_189.out
           have hns92_6 := NB175_189.out
           have hms92_0 := NB189_139.out
           have hms92_1 := NB189_145.out
           have hms92_2 := NB189_150.out
           have hms92_3 := NB189_159.out
           have hms92_4 := NB189_160.out
           have hms92_5 := NB189_169.out
           have hms92_6 := NB189_175.out
           refine skip_ (w1 := ?_) (by rfl) rfl ?_ ?_
           rotate_left
           ·go_simp
            rfl
           refine hK.out _ _ ⟨((cell_far (p := ⟨gb189, _, none⟩) NB139_189.out _).trans (((cell_far (p := ⟨gb189, _, none⟩) NB139_189.out _).trans (((cell_far (p := ⟨gb189, _, none⟩) NB139_189.out _).trans (((cell_far (p := ⟨gb189, _, none⟩) NB139_189.out _).trans (hHeld.1)))))))), ((cell_far (p := ⟨gb189, _, none⟩) NB139_189.out _).trans (((cell_far (p := ⟨gb189, _, none⟩) NB139_189.out _).trans (((cell_far (p := ⟨gb189, _, none⟩) NB139_189.out _).trans (((cell_far (p := ⟨gb189, _, none⟩) NB139_189.out _).trans (hHeld.2.1)))))))), ((cell_far (p := ⟨gb189, _, none⟩) NB139_189.out _).trans (((cell_far (p := ⟨gb189, _, none⟩) NB139_189.out _).trans (((cell_far (p := ⟨gb189, _, none⟩) NB139_189.out _).trans (((cell_far (p := ⟨gb189, _, none⟩) NB139_189.out _).trans (hHeld.2.2.1)))))))), ((cell_far (p := ⟨gb189, _, none⟩) NB139_189.out _).trans (((cell_far (p := ⟨gb189, _, none⟩) NB139_189.out _).trans (((cell_far (p := ⟨gb189, _, none⟩) NB139_189.out _).trans (((cell_far (p := ⟨gb189, _, none⟩) NB139_189.out _).trans (hHeld.2.2.2.1)))))))), ((cell_far (p := ⟨gb189, _, none⟩) NB160_189.out _).trans (((cell_far (p := ⟨gb189, _, none⟩) NB160_189.out _).trans (((cell_far (p := ⟨gb189, _, none⟩) NB160_189.out _).trans (((cell_far (p := ⟨gb189, _, none⟩) NB160_189.out _).trans (hHeld.2.2.2.2.1)))))))), ((cell_far (p := ⟨gb189, _, none⟩) NB160_189.out _).trans (((cell_far (p := ⟨gb189, _, none⟩) NB160_189.out _).trans (((cell_far (p := ⟨gb189, _, none⟩) NB160_189.out _).trans (((cell_far (p := ⟨gb189, _, none⟩) NB160_189.out _).trans (hHeld.2.2.2.2.2.1)))))))), ((cell_far (p := ⟨gb189, _, none⟩) NB160_189.out _).trans (((cell_far (p := ⟨gb189, _, none⟩) NB160_189.out _).trans (((cell_far (p := ⟨gb189, _, none⟩) NB160_189.out _).trans (((cell_far (p := ⟨gb189, _, none⟩) NB160_189.out _).trans (hHeld.2.2.2.2.2.2.1)))))))), ((cell_far (p := ⟨gb189, _, none⟩) NB160_189.out _).trans (((cell_far (p := ⟨gb189, _, none⟩) NB160_189.out _).trans (((cell_far (p := ⟨gb189, _, none⟩) NB160_189.out _).trans (((cell_far (p := ⟨gb189, _, none⟩) NB160_189.out _).trans (hHeld.2.2.2.2.2.2.2))))))))⟩ (fun hHeld => ?_)
           clear hK K
           refine pure_ (i := 12) (N := some 11) (v := ?_) (a' := ?_) #[true, true, true, true, true, true, true, true, true, true, true, true, true] rfl rfl (any_of HT_.out (by kernel_rfl)) (fun _ _ _ h => h) (Or.inl ⟨by rfl, ?_⟩) ?_ ?_
           rotate_left
           ·intro w'
            go_simp
            with_reducible rfl
           rotate_left
           ·simp only [Act.put, List.setIfInBounds_toArray, List.set_cons_zero, List.set_cons_succ, i64_w, i32_w]
            rfl
           refine done_ (done_of HT_.out (by kernel_rfl)) ?_
           have hnb93 := NB139_189.out
           have hnc93 := NB189_139.out
           have hcz94_0 : w88.cell? ⟨gb139, 0, none⟩ = some (.int .i64 t135) := (blk_cell BK139.out 0).trans rfl
           have hcz94_1 : w88.cell? ⟨gb139, 1, none⟩ = some (.int .i64 t136) := (blk_cell BK139.out 1).trans rfl
           have hcz94_2 : w88.cell? ⟨gb139, 2, none⟩ = some (.int .i64 t137) := (blk_cell BK139.out 2).trans rfl
           have hcz94_3 : w88.cell? ⟨gb139, 3, none⟩ = some (.int .i64 t138) := (blk_cell BK139.out 3).trans rfl
           have hfz94_0 := blk_frozen BK139.out 0
           have hfz94_1 := blk_frozen BK139.out 1
           have hfz94_2 := blk_frozen BK139.out 2
           have hfz94_3 := blk_frozen BK139.out 3
           try go_wp2_with (first | ((with_reducible refine gate_callee (f := 11) rfl ?_); refine goesL_ (some 50) rfl rfl Try.func11 (by kernel_rfl) rfl #[.agg #[.int .i64 t135, .int .i64 t136, .int .i64 t137, .int .i64 t138]] rfl (by (try simp only [List.map_toArray, List.map_cons, List.map_nil]); first | done | rfl | (simp only [List.length_drop, List.length_take]; rfl)) ?_; (with_reducible refine (drive_Right.calls t135 t136 t137 t138 true _ A12.out).mono ?_); rintro e w95 ⟨rfl, hb⟩; refine ⟨_, rfl, ?_⟩; have n0_ := Aside0.mk (blk_below (g := gb139) (o := .cells #[.int .i64 t135, .int .i64 t136, .int .i64 t137, .int .i64 t138] 23 (0, 0)) (by (with_reducible repeat (first | refine blk_drewN ?_ _ | refine blk_drew ?_ | refine blk_alloc ?_ _)); refine blk_far ?_ NB139_189.out _; (with_reducible repeat (first | refine blk_drewN ?_ _ | refine blk_drew ?_ | refine blk_alloc ?_ _)); refine blk_far ?_ NB139_189.out _; (with_reducible repeat (first | refine blk_drewN ?_ _ | refine blk_drew ?_ | refine blk_alloc ?_ _)); refine blk_far ?_ NB139_189.out _; (with_reducible repeat (first | refine blk_drewN ?_ _ | refine blk_drew ?_ | refine blk_alloc ?_ _)); refine blk_far ?_ NB139_189.out _; (with_reducible repeat (first | refine blk_drewN ?_ _ | refine blk_drew ?_ | refine blk_alloc ?_ _)); exact BK139.out) hb); have n1_ := Aside0.mk (blk_below (g := gb145) (o := .cells #[.int .i64 t140, .int .i64 t141, .int .i64 t142, .int .i64 t143] 25 (0, 0)) (by (with_reducible repeat (first | refine blk_drewN ?_ _ | refine blk_drew ?_ | refine blk_alloc ?_ _)); refine blk_far ?_ NB145_189.out _; (with_reducible repeat (first | refine blk_drewN ?_ _ | refine blk_drew ?_ | refine blk_alloc ?_ _)); refine blk_far ?_ NB145_189.out _; (with_reducible repeat (first | refine blk_drewN ?_ _ | refine blk_drew ?_ | refine blk_alloc ?_ _)); refine blk_far ?_ NB145_189.out _; (with_reducible repeat (first | refine blk_drewN ?_ _ | refine blk_drew ?_ | refine blk_alloc ?_ _)); refine blk_far ?_ NB145_189.out _; (with_reducible repeat (first | refine blk_drewN ?_ _ | refine blk_drew ?_ | refine blk_alloc ?_ _)); exact BK145.out) hb); have n2_ := Aside0.mk (blk_below (g := gb150) (o := .cells #[.int .i64 t146, .int .i64 t147, .int .i64 t148, .int .i64 t149] 25 (0, 0)) (by (with_reducible repeat (first | refine blk_drewN ?_ _ | refine blk_drew ?_ | refine blk_alloc ?_ _)); refine blk_far ?_ NB150_189.out _; (with_reducible repeat (first | refine blk_drewN ?_ _ | refine blk_drew ?_ | refine blk_alloc ?_ _)); refine blk_far ?_ NB150_189.out _; (with_reducible repeat (first | refine blk_drewN ?_ _ | refine blk_drew ?_ | refine blk_alloc ?_ _)); refine blk_far ?_ NB150_189.out _; (with_reducible repeat (first | refine blk_drewN ?_ _ | refine blk_drew ?_ | refine blk_alloc ?_ _)); refine blk_far ?_ NB150_189.out _; (with_reducible repeat (first | refine blk_drewN ?_ _ | refine blk_drew ?_ | refine blk_alloc ?_ _)); exact BK150.out) hb); have n3_ := Aside0.mk (blk_below (g := gb159) (o := .cells #[.int .i64 t155, .int .i64 t156, .int .i64 t157, .int .i64 t158] 25 (0, 0)) (by (with_reducible repeat (first | refine blk_drewN ?_ _ | refine blk_drew ?_ | refine blk_alloc ?_ _)); refine blk_far ?_ NB159_189.out _; (with_reducible repeat (first | refine blk_drewN ?_ _ | refine blk_drew ?_ | refine blk_alloc ?_ _)); refine blk_far ?_ NB159_189.out _; (with_reducible repeat (first | refine blk_drewN ?_ _ | refine blk_drew ?_ | refine blk_alloc ?_ _)); refine blk_far ?_ NB159_189.out _; (with_reducible repeat (first | refine blk_drewN ?_ _ | refine blk_drew ?_ | refine blk_alloc ?_ _)); refine blk_far ?_ NB159_189.out _; (with_reducible repeat (first | refine blk_drewN ?_ _ | refine blk_drew ?_ | refine blk_alloc ?_ _)); exact BK159.out) hb); have n4_ := Aside0.mk (blk_below (g := gb160) (o := .cells #[.int .i64 1, .int .i64 5000, .int .i64 5000, .int .i64 0] 25 (0, 0)) (by (with_reducible repeat (first | refine blk_drewN ?_ _ | refine blk_drew ?_ | refine blk_alloc ?_ _)); refine blk_far ?_ NB160_189.out _; (with_reducible repeat (first | refine blk_drewN ?_ _ | refine blk_drew ?_ | refine blk_alloc ?_ _)); refine blk_far ?_ NB160_189.out _; (with_reducible repeat (first | refine blk_drewN ?_ _ | refine blk_drew ?_ | refine blk_alloc ?_ _)); refine blk_far ?_ NB160_189.out _; (with_reducible repeat (first | refine blk_drewN ?_ _ | refine blk_drew ?_ | refine blk_alloc ?_ _)); refine blk_far ?_ NB160_189.out _; (with_reducible repeat (first | refine blk_drewN ?_ _ | refine blk_drew ?_ | refine blk_alloc ?_ _)); exact BK160.out) hb); have n5_ := Aside0.mk (blk_below (g := gb169) (o := .cells #[.int .i64 t165, .int .i64 t166, .int .i64 t167, .int .i64 t168] 25 (0, 0)) (by (with_reducible repeat (first | refine blk_drewN ?_ _ | refine blk_drew ?_ | refine blk_alloc ?_ _)); refine blk_far ?_ NB169_189.out _; (with_reducible repeat (first | refine blk_drewN ?_ _ | refine blk_drew ?_ | refine blk_alloc ?_ _)); refine blk_far ?_ NB169_189.out _; (with_reducible repeat (first | refine blk_drewN ?_ _ | refine blk_drew ?_ | refine blk_alloc ?_ _)); refine blk_far ?_ NB169_189.out _; (with_reducible repeat (first | refine blk_drewN ?_ _ | refine blk_drew ?_ | refine blk_alloc ?_ _)); refine blk_far ?_ NB169_189.out _; (with_reducible repeat (first | refine blk_drewN ?_ _ | refine blk_drew ?_ | refine blk_alloc ?_ _)); exact BK169.out) hb); have n6_ := Aside0.mk (blk_below (g := gb175) (o := .cells #[.int .i64 t170, .int .i64 t171, .int .i64 t172, .int .i64 t173] 25 (0, 0)) (by (with_reducible repeat (first | refine blk_drewN ?_ _ | refine blk_drew ?_ | refine blk_alloc ?_ _)); refine blk_far ?_ NB175_189.out _; (with_reducible repeat (first | refine blk_drewN ?_ _ | refine blk_drew ?_ | refine blk_alloc ?_ _)); refine blk_far ?_ NB175_189.out _; (with_reducible repeat (first | refine blk_drewN ?_ _ | refine blk_drew ?_ | refine blk_alloc ?_ _)); refine blk_far ?_ NB175_189.out _; (with_reducible repeat (first | refine blk_drewN ?_ _ | refine blk_drew ?_ | refine blk_alloc ?_ _)); refine blk_far ?_ NB175_189.out _; (with_reducible repeat (first | refine blk_drewN ?_ _ | refine blk_drew ?_ | refine blk_alloc ?_ _)); exact BK175.out) hb); have n7_ := Aside0.mk (blk_below (g := gb189) (o := .cells #[.int .i64 t184, .int .i64 t185, .int .i64 t186, .int .i64 t187] 25 (0, 0)) (by (with_reducible repeat (first | refine blk_drewN ?_ _ | refine blk_drew ?_ | refine blk_alloc ?_ _)); refine blk_put (cs := #[.int .i64 t184, .int .i64 t185, .int .i64 t186, .int .i64 0]) ?_ 3 _ rfl; (with_reducible repeat (first | refine blk_drewN ?_ _ | refine blk_drew ?_ | refine blk_alloc ?_ _)); refine blk_put (cs := #[.int .i64 t184, .int .i64 t185, .int .i64 0, .int .i64 0]) ?_ 2 _ rfl; (with_reducible repeat (first | refine blk_drewN ?_ _ | refine blk_drew ?_ | refine blk_alloc ?_ _)); refine blk_put (cs := #[.int .i64 t184, .int .i64 0, .int .i64 0, .int .i64 0]) ?_ 1 _ rfl; (with_reducible repeat (first | refine blk_drewN ?_ _ | refine blk_drew ?_ | refine blk_alloc ?_ _)); refine blk_put (cs := #[.int .i64 0, .int .i64 0, .int .i64 0, .int .i64 0]) ?_ 0 _ rfl; (with_reducible repeat (first | refine blk_drewN ?_ _ | refine blk_drew ?_ | refine blk_alloc ?_ _)); exact BK189.out) hb); have n8_ := Aside0.mk (below_step (by repeat (first | (with_reducible first | exact HB.out | apply below_alloc | apply pw_below_drewN | apply below_drew1 | refine below_set ?_ GE139.out | refine below_set ?_ GE145.out | refine below_set ?_ GE150.out | refine below_set ?_ GE159.out | refine below_set ?_ GE160.out | refine below_set ?_ GE169.out | refine below_set ?_ GE175.out | refine below_set ?_ GE189.out) | exact HB.out)) hb); clear BK139; clear BK145; clear BK150; clear BK159; clear BK160; clear BK169; clear BK175; clear BK189; clear HB; have BK139 := n0_; have BK145 := n1_; have BK150 := n2_; have BK159 := n3_; have BK160 := n4_; have BK169 := n5_; have BK175 := n6_; have BK189 := n7_; have HB := n8_; clear n0_ n1_ n2_ n3_ n4_ n5_ n6_ n7_ n8_; (try clear hb); (try clear hb2); (try clear hk); (try clear hi); have hcz96_0 : w95.cell? ⟨gb139, 0, none⟩ = some (.int .i64 t135) := (blk_cell BK139.out 0).trans rfl; have hcz96_1 : w95.cell? ⟨gb139, 1, none⟩ = some (.int .i64 t136) := (blk_cell BK139.out 1).trans rfl; have hcz96_2 : w95.cell? ⟨gb139, 2, none⟩ = some (.int .i64 t137) := (blk_cell BK139.out 2).trans rfl; have hcz96_3 : w95.cell? ⟨gb139, 3, none⟩ = some (.int .i64 t138) := (blk_cell BK139.out 3).trans rfl; have hfz96_0 := blk_frozen BK139.out 0; have hfz96_1 := blk_frozen BK139.out 1; have hfz96_2 := blk_frozen BK139.out 2; have hfz96_3 := blk_frozen BK139.out 3; have hnb97 := NB160_189.out; have hnc97 := NB189_160.out; have hcz98_0 : w95.cell? ⟨gb160, 0, none⟩ = some (.int .i64 1) := (blk_cell BK160.out 0).trans rfl; have hcz98_1 : w95.cell? ⟨gb160, 1, none⟩ = some (.int .i64 5000) := (blk_cell BK160.out 1).trans rfl; have hcz98_2 : w95.cell? ⟨gb160, 2, none⟩ = some (.int .i64 5000) := (blk_cell BK160.out 2).trans rfl; have hcz98_3 : w95.cell? ⟨gb160, 3, none⟩ = some (.int .i64 0) := (blk_cell BK160.out 3).trans rfl; have hfz98_0 := blk_frozen BK160.out 0; have hfz98_1 := blk_frozen BK160.out 1; have hfz98_2 := blk_frozen BK160.out 2; have hfz98_3 := blk_frozen BK160.out 3) | (go_at_call 13; (with_reducible refine (drive_Valid.calls k t135 t136 t137 t138 1 5000 5000 0 true _ A14.out).mono ?_); rintro e w99 ⟨rfl, hb⟩; have n0_ := Aside0.mk (bb_ BK139.out hb); have n1_ := Aside0.mk (bb_ BK145.out hb); have n2_ := Aside0.mk (bb_ BK150.out hb); have n3_ := Aside0.mk (bb_ BK159.out hb); have n4_ := Aside0.mk (bb_ BK160.out hb); have n5_ := Aside0.mk (bb_ BK169.out hb); have n6_ := Aside0.mk (bb_ BK175.out hb); have n7_ := Aside0.mk (bb_ BK189.out hb); have n8_ := Aside0.mk (below_step (by repeat (first | (with_reducible first | exact HB.out | apply below_alloc | apply pw_below_drewN | apply below_drew1 | refine below_set ?_ GE139.out | refine below_set ?_ GE145.out | refine below_set ?_ GE150.out | refine below_set ?_ GE159.out | refine below_set ?_ GE160.out | refine below_set ?_ GE169.out | refine below_set ?_ GE175.out | refine below_set ?_ GE189.out) | exact HB.out)) hb); clear BK139; clear BK145; clear BK150; clear BK159; clear BK160; clear BK169; clear BK175; clear BK189; clear HB; have BK139 := n0_; have BK145 := n1_; have BK150 := n2_; have BK159 := n3_; have BK160 := n4_; have BK169 := n5_; have BK175 := n6_; have BK189 := n7_; have HB := n8_; clear n0_ n1_ n2_ n3_ n4_ n5_ n6_ n7_ n8_; (try clear hb); (try clear hb2); (try clear hk); (try clear hi); have hcz100_0 : w99.cell? ⟨gb139, 0, none⟩ = some (.int .i64 t135) := (blk_cell BK139.out 0).trans rfl; have hcz100_1 : w99.cell? ⟨gb139, 1, none⟩ = some (.int .i64 t136) := (blk_cell BK139.out 1).trans rfl; have hcz100_2 : w99.cell? ⟨gb139, 2, none⟩ = some (.int .i64 t137) := (blk_cell BK139.out 2).trans rfl; have hcz100_3 : w99.cell? ⟨gb139, 3, none⟩ = some (.int .i64 t138) := (blk_cell BK139.out 3).trans rfl; have hfz100_0 := blk_frozen BK139.out 0; have hfz100_1 := blk_frozen BK139.out 1; have hfz100_2 := blk_frozen BK139.out 2; have hfz100_3 := blk_frozen BK139.out 3) | (go_at_call 13; (with_reducible refine (drive_Valid.calls k t135 t136 t137 t138 0 1 0 0 false _ A16.out).mono ?_); rintro e w101 ⟨rfl, hb⟩; have n0_ := Aside0.mk (bb_ BK139.out hb); have n1_ := Aside0.mk (bb_ BK145.out hb); have n2_ := Aside0.mk (bb_ BK150.out hb); have n3_ := Aside0.mk (bb_ BK159.out hb); have n4_ := Aside0.mk (bb_ BK160.out hb); have n5_ := Aside0.mk (bb_ BK169.out hb); have n6_ := Aside0.mk (bb_ BK175.out hb); have n7_ := Aside0.mk (bb_ BK189.out hb); have n8_ := Aside0.mk (below_step (by repeat (first | (with_reducible first | exact HB.out | apply below_alloc | apply pw_below_drewN | apply below_drew1 | refine below_set ?_ GE139.out | refine below_set ?_ GE145.out | refine below_set ?_ GE150.out | refine below_set ?_ GE159.out | refine below_set ?_ GE160.out | refine below_set ?_ GE169.out | refine below_set ?_ GE175.out | refine below_set ?_ GE189.out) | exact HB.out)) hb); clear BK139; clear BK145; clear BK150; clear BK159; clear BK160; clear BK169; clear BK175; clear BK189; clear HB; have BK139 := n0_; have BK145 := n1_; have BK150 := n2_; have BK159 := n3_; have BK160 := n4_; have BK169 := n5_; have BK175 := n6_; have BK189 := n7_; have HB := n8_; clear n0_ n1_ n2_ n3_ n4_ n5_ n6_ n7_ n8_; (try clear hb); (try clear hb2); (try clear hk); (try clear hi); have hcz102_0 : w101.cell? ⟨gb139, 0, none⟩ = some (.int .i64 t135) := (blk_cell BK139.out 0).trans rfl; have hcz102_1 : w101.cell? ⟨gb139, 1, none⟩ = some (.int .i64 t136) := (blk_cell BK139.out 1).trans rfl; have hcz102_2 : w101.cell? ⟨gb139, 2, none⟩ = some (.int .i64 t137) := (blk_cell BK139.out 2).trans rfl; have hcz102_3 : w101.cell? ⟨gb139, 3, none⟩ = some (.int .i64 t138) := (blk_cell BK139.out 3).trans rfl; have hfz102_0 := blk_frozen BK139.out 0; have hfz102_1 := blk_frozen BK139.out 1; have hfz102_2 := blk_frozen BK139.out 2; have hfz102_3 := blk_frozen BK139.out 3; have hcz103_0 : w101.cell? ⟨gb160, 0, none⟩ = some (.int .i64 1) := (blk_cell BK160.out 0).trans rfl; have hcz103_1 : w101.cell? ⟨gb160, 1, none⟩ = some (.int .i64 5000) := (blk_cell BK160.out 1).trans rfl; have hcz103_2 : w101.cell? ⟨gb160, 2, none⟩ = some (.int .i64 5000) := (blk_cell BK160.out 2).trans rfl; have hcz103_3 : w101.cell? ⟨gb160, 3, none⟩ = some (.int .i64 0) := (blk_cell BK160.out 3).trans rfl; have hfz103_0 := blk_frozen BK160.out 0; have hfz103_1 := blk_frozen BK160.out 1; have hfz103_2 := blk_frozen BK160.out 2; have hfz103_3 := blk_frozen BK160.out 3) | (go_at_call 26; (with_reducible refine (drive_Distance.calls k t135 t136 t137 t138 1 5000 5000 0 t193 _ A21.out).mono ?_); rintro e w104 ⟨rfl, hb⟩; have n0_ := Aside0.mk (bb_ BK139.out hb); have n1_ := Aside0.mk (bb_ BK145.out hb); have n2_ := Aside0.mk (bb_ BK150.out hb); have n3_ := Aside0.mk (bb_ BK159.out hb); have n4_ := Aside0.mk (bb_ BK160.out hb); have n5_ := Aside0.mk (bb_ BK169.out hb); have n6_ := Aside0.mk (bb_ BK175.out hb); have n7_ := Aside0.mk (bb_ BK189.out hb); have n8_ := Aside0.mk (below_step (by repeat (first | (with_reducible first | exact HB.out | apply below_alloc | apply pw_below_drewN | apply below_drew1 | refine below_set ?_ GE139.out | refine below_set ?_ GE145.out | refine below_set ?_ GE150.out | refine below_set ?_ GE159.out | refine below_set ?_ GE160.out | refine below_set ?_ GE169.out | refine below_set ?_ GE175.out | refine below_set ?_ GE189.out) | exact HB.out)) hb); clear BK139; clear BK145; clear BK150; clear BK159; clear BK160; clear BK169; clear BK175; clear BK189; clear HB; have BK139 := n0_; have BK145 := n1_; have BK150 := n2_; have BK159 := n3_; have BK160 := n4_; have BK169 := n5_; have BK175 := n6_; have BK189 := n7_; have HB := n8_; clear n0_ n1_ n2_ n3_ n4_ n5_ n6_ n7_ n8_; (try clear hb); (try clear hb2); (try clear hk); (try clear hi); have hnb105 := NB150_159.out; have hnc105 := NB159_150.out; have hnb106 := NB150_189.out; have hnc106 := NB189_150.out; have hcz107_0 : w104.cell? ⟨gb150, 0, none⟩ = some (.int .i64 t146) := (blk_cell BK150.out 0).trans rfl; have hcz107_1 : w104.cell? ⟨gb150, 1, none⟩ = some (.int .i64 t147) := (blk_cell BK150.out 1).trans rfl; have hcz107_2 : w104.cell? ⟨gb150, 2, none⟩ = some (.int .i64 t148) := (blk_cell BK150.out 2).trans rfl; have hcz107_3 : w104.cell? ⟨gb150, 3, none⟩ = some (.int .i64 t149) := (blk_cell BK150.out 3).trans rfl; have hfz107_0 := blk_frozen BK150.out 0; have hfz107_1 := blk_frozen BK150.out 1; have hfz107_2 := blk_frozen BK150.out 2; have hfz107_3 := blk_frozen BK150.out 3; have hnb108 := NB159_145.out; have hnc108 := NB145_159.out; have hnb109 := NB159_189.out; have hnc109 := NB189_159.out; have hcz110_0 : w104.cell? ⟨gb159, 0, none⟩ = some (.int .i64 t155) := (blk_cell BK159.out 0).trans rfl; have hcz110_1 : w104.cell? ⟨gb159, 1, none⟩ = some (.int .i64 t156) := (blk_cell BK159.out 1).trans rfl; have hcz110_2 : w104.cell? ⟨gb159, 2, none⟩ = some (.int .i64 t157) := (blk_cell BK159.out 2).trans rfl; have hcz110_3 : w104.cell? ⟨gb159, 3, none⟩ = some (.int .i64 t158) := (blk_cell BK159.out 3).trans rfl; have hfz110_0 := blk_frozen BK159.out 0; have hfz110_1 := blk_frozen BK159.out 1; have hfz110_2 := blk_frozen BK159.out 2; have hfz110_3 := blk_frozen BK159.out 3; have hnb111 := NB169_189.out; have hnc111 := NB189_169.out; have hcz112_0 : w104.cell? ⟨gb169, 0, none⟩ = some (.int .i64 t165) := (blk_cell BK169.out 0).trans rfl; have hcz112_1 : w104.cell? ⟨gb169, 1, none⟩ = some (.int .i64 t166) := (blk_cell BK169.out 1).trans rfl; have hcz112_2 : w104.cell? ⟨gb169, 2, none⟩ = some (.int .i64 t167) := (blk_cell BK169.out 2).trans rfl; have hcz112_3 : w104.cell? ⟨gb169, 3, none⟩ = some (.int .i64 t168) := (blk_cell BK169.out 3).trans rfl; have hfz112_0 := blk_frozen BK169.out 0; have hfz112_1 := blk_frozen BK169.out 1; have hfz112_2 := blk_frozen BK169.out 2; have hfz112_3 := blk_frozen BK169.out 3; have hnb113 := NB175_189.out; have hnc113 := NB189_175.out; have hcz114_0 : w104.cell? ⟨gb175, 0, none⟩ = some (.int .i64 t170) := (blk_cell BK175.out 0).trans rfl; have hcz114_1 : w104.cell? ⟨gb175, 1, none⟩ = some (.int .i64 t171) := (blk_cell BK175.out 1).trans rfl; have hcz114_2 : w104.cell? ⟨gb175, 2, none⟩ = some (.int .i64 t172) := (blk_cell BK175.out 2).trans rfl; have hcz114_3 : w104.cell? ⟨gb175, 3, none⟩ = some (.int .i64 t173) := (blk_cell BK175.out 3).trans rfl; have hfz114_0 := blk_frozen BK175.out 0; have hfz114_1 := blk_frozen BK175.out 1; have hfz114_2 := blk_frozen BK175.out 2; have hfz114_3 := blk_frozen BK175.out 3))
           go_ret
           exact ⟨by first | rfl | (simp [errW_none, errW_some] <;> rfl) | (simp [*, errW_none, errW_some] <;> rfl), by repeat (first | (with_reducible first | exact HB.out | apply below_alloc | apply pw_below_drewN | apply below_drew1 | refine below_set ?_ GE139.out | refine below_set ?_ GE145.out | refine below_set ?_ GE150.out | refine below_set ?_ GE159.out | refine below_set ?_ GE160.out | refine below_set ?_ GE169.out | refine below_set ?_ GE175.out | refine below_set ?_ GE189.out) | exact HB.out)⟩
          ·rw [if_neg c25] at H
           exact absurd H (by simp)
         ·rw [if_neg c24] at H
          exact absurd H (by simp)
        ·rw [if_neg c23] at H
         exact absurd H (by simp)
       ·rw [if_neg c22] at H
        exact absurd H (by simp)
      ·rw [if_neg c20] at H
       exact absurd H (by simp)
     ·rw [if_neg c19] at H
      exact absurd H (by simp)
    ·rw [if_neg c18] at H
     exact absurd H (by simp)
  ·replace c15 := Bool.eq_false_iff.mpr c15
   subst c15
   have H1 : (none) = some r := by rw [if_neg (show ¬ (false = true) by decide)] at H; exact H
   clear H
   have H := H1
   clear H1
   exact absurd H (by simp)
 ·replace c13 := Bool.eq_false_iff.mpr c13
  subst c13
  have H1 : (none) = some r := by rw [if_neg (show ¬ (false = true) by decide)] at H; exact H
  clear H
  have H := H1
  clear H1
  exact absurd H (by simp)

end Go.Proofs.Ytaleljinebkdkaa.P
