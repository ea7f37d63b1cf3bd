/- FIVE RUNS of tethertop.TopTires by the kernel, at one rest of 'most' by 7, one for each count of digits of the hold-off. No condition. -/
import Derived.Test.YtekdmgmdhhkaoaaGreatDoorTb
import Derived.KernelRfl

namespace Go.Proofs.YtekdmgmdhhkaoaaGreatDoor.SE
set_option maxRecDepth 1000000
theorem run0_6 : RunOk (Γ0 (6)) := fun t0 t1 => by kernel_rfl
theorem run1_6 : RunOk (Γ1 (6)) := fun t0 t1 => by kernel_rfl
theorem run2_6 : RunOk (Γ2 (6)) := fun t0 t1 => by kernel_rfl
theorem run3_6 : RunOk (Γ3 (6)) := fun t0 t1 => by kernel_rfl
theorem run4_6 : RunOk (Γ4 (6)) := fun t0 t1 => by kernel_rfl
end Go.Proofs.YtekdmgmdhhkaoaaGreatDoor.SE
