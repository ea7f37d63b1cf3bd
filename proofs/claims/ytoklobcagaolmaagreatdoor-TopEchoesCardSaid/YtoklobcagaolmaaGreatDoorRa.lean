/- RUNS by the kernel: from the arguments to the numbers that the law goes by. No condition. -/
import Derived.Test.YtoklobcagaolmaaGreatDoorTb
import Derived.KernelRfl

namespace Go.Proofs.YtoklobcagaolmaaGreatDoor.SE
set_option maxRecDepth 1000000
theorem run03000 : ∀ t0 t1, segT (exs (items 4 law) (envL (Γ03 (-5428) (-49) (0) false false false) P0 exts0) (S00 t0 t1)) isNorm 18 18 s18 [] (S03 t0 t1).tm (h00 t0 t1) = (true, t0, t1) := fun t0 t1 => by kernel_rfl
theorem run03001 : ∀ t0 t1, segT (exs (items 4 law) (envL (Γ03 (-5428) (-49) (-8) false false true) P0 exts0) (S00 t0 t1)) isNorm 18 18 s18 [] (S03 t0 t1).tm (h00 t0 t1) = (true, t0, t1) := fun t0 t1 => by kernel_rfl
theorem run03010 : ∀ t0 t1, segT (exs (items 4 law) (envL (Γ03 (-5428) (-54) (0) false true false) P0 exts0) (S00 t0 t1)) isNorm 18 18 s18 [] (S03 t0 t1).tm (h00 t0 t1) = (true, t0, t1) := fun t0 t1 => by kernel_rfl
theorem run03011 : ∀ t0 t1, segT (exs (items 4 law) (envL (Γ03 (-5428) (-54) (-8) false true true) P0 exts0) (S00 t0 t1)) isNorm 18 18 s18 [] (S03 t0 t1).tm (h00 t0 t1) = (true, t0, t1) := fun t0 t1 => by kernel_rfl
theorem run03100 : ∀ t0 t1, segT (exs (items 4 law) (envL (Γ03 (-6452) (-49) (0) true false false) P0 exts0) (S00 t0 t1)) isNorm 18 18 s18 [] (S03 t0 t1).tm (h00 t0 t1) = (true, t0, t1) := fun t0 t1 => by kernel_rfl
theorem run03101 : ∀ t0 t1, segT (exs (items 4 law) (envL (Γ03 (-6452) (-49) (-8) true false true) P0 exts0) (S00 t0 t1)) isNorm 18 18 s18 [] (S03 t0 t1).tm (h00 t0 t1) = (true, t0, t1) := fun t0 t1 => by kernel_rfl
theorem run03110 : ∀ t0 t1, segT (exs (items 4 law) (envL (Γ03 (-6452) (-54) (0) true true false) P0 exts0) (S00 t0 t1)) isNorm 18 18 s18 [] (S03 t0 t1).tm (h00 t0 t1) = (true, t0, t1) := fun t0 t1 => by kernel_rfl
theorem run03111 : ∀ t0 t1, segT (exs (items 4 law) (envL (Γ03 (-6452) (-54) (-8) true true true) P0 exts0) (S00 t0 t1)) isNorm 18 18 s18 [] (S03 t0 t1).tm (h00 t0 t1) = (true, t0, t1) := fun t0 t1 => by kernel_rfl
theorem run04000 : ∀ t0 t1, segT (exs (items 4 law) (envL (Γ04 (-53428) (-49) (0) false false false) P0 exts0) (S00 t0 t1)) isNorm 18 18 s18 [] (S04 t0 t1).tm (h00 t0 t1) = (true, t0, t1) := fun t0 t1 => by kernel_rfl
theorem run04001 : ∀ t0 t1, segT (exs (items 4 law) (envL (Γ04 (-53428) (-49) (-8) false false true) P0 exts0) (S00 t0 t1)) isNorm 18 18 s18 [] (S04 t0 t1).tm (h00 t0 t1) = (true, t0, t1) := fun t0 t1 => by kernel_rfl
theorem run04010 : ∀ t0 t1, segT (exs (items 4 law) (envL (Γ04 (-53428) (-54) (0) false true false) P0 exts0) (S00 t0 t1)) isNorm 18 18 s18 [] (S04 t0 t1).tm (h00 t0 t1) = (true, t0, t1) := fun t0 t1 => by kernel_rfl
theorem run04011 : ∀ t0 t1, segT (exs (items 4 law) (envL (Γ04 (-53428) (-54) (-8) false true true) P0 exts0) (S00 t0 t1)) isNorm 18 18 s18 [] (S04 t0 t1).tm (h00 t0 t1) = (true, t0, t1) := fun t0 t1 => by kernel_rfl
theorem run04100 : ∀ t0 t1, segT (exs (items 4 law) (envL (Γ04 (-54452) (-49) (0) true false false) P0 exts0) (S00 t0 t1)) isNorm 18 18 s18 [] (S04 t0 t1).tm (h00 t0 t1) = (true, t0, t1) := fun t0 t1 => by kernel_rfl
theorem run04101 : ∀ t0 t1, segT (exs (items 4 law) (envL (Γ04 (-54452) (-49) (-8) true false true) P0 exts0) (S00 t0 t1)) isNorm 18 18 s18 [] (S04 t0 t1).tm (h00 t0 t1) = (true, t0, t1) := fun t0 t1 => by kernel_rfl
theorem run04110 : ∀ t0 t1, segT (exs (items 4 law) (envL (Γ04 (-54452) (-54) (0) true true false) P0 exts0) (S00 t0 t1)) isNorm 18 18 s18 [] (S04 t0 t1).tm (h00 t0 t1) = (true, t0, t1) := fun t0 t1 => by kernel_rfl
theorem run04111 : ∀ t0 t1, segT (exs (items 4 law) (envL (Γ04 (-54452) (-54) (-8) true true true) P0 exts0) (S00 t0 t1)) isNorm 18 18 s18 [] (S04 t0 t1).tm (h00 t0 t1) = (true, t0, t1) := fun t0 t1 => by kernel_rfl
end Go.Proofs.YtoklobcagaolmaaGreatDoor.SE
