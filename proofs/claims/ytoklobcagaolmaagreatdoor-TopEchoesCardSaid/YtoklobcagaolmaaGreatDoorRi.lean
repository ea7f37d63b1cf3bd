/- RUNS by the kernel: ticks of the second span, and the last piece. No condition. -/
import Derived.Test.YtoklobcagaolmaaGreatDoorTb
import Derived.KernelRfl

namespace Go.Proofs.YtoklobcagaolmaaGreatDoor.SE
set_option maxRecDepth 1000000
theorem idle : ∀ t0 t1, segT (ex lb2 (envL Γidle2 P0 exts0) (SE' t0 t1)) isNorm 18 63 s63 τi tmD (wE t0 t1 (hE)) = (true, t0, t1) := fun t0 t1 => by kernel_rfl
theorem fin : ∀ t0 t1, finO (envL Γfin P0 exts0) (SE' t0 t1) = some (.bool true, some (.cells t0 [.iface 768 (.ptr 16 0)] true true none), some (.cells t1 [.iface 768 (.ptr 17 0)] true true none)) := fun t0 t1 => by kernel_rfl
end Go.Proofs.YtoklobcagaolmaaGreatDoor.SE
