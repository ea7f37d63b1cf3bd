/- RUNS by the kernel: both links up. No condition. -/
import Derived.Test.YtoklobcagaolmaaGreatDoorTb
import Derived.KernelRfl

namespace Go.Proofs.YtoklobcagaolmaaGreatDoor.SE
set_option maxRecDepth 1000000
theorem runx : ∀ t0 t1, segT (exs (items 2 lawF) (envL Γf P0 exts0) (SJ t0 t1)) isNorm 18 63 sX τ0 (T.set (tmW .e) 13 (iI 0)) (wE t0 t1 (hU 0 now0 now1)) = (true, t0, t1) := fun t0 t1 => by kernel_rfl
theorem runx0 : ∀ t0 t1, segT (exs (items 1 lawA) (envL Γf P0 exts0) ⟨T.set (tmW .e) 13 (iI 0), [], wE t0 t1 (hU 0 now0 now1), 63⟩) isNorm 18 63 s63 [] (tmU 0 now0) (wE t0 t1 (hU 0 now0 now1)) = (true, t0, t1) := fun t0 t1 => by kernel_rfl
end Go.Proofs.YtoklobcagaolmaaGreatDoor.SE
