/- RUNS by the kernel: a tick that is answered, one for each number of ticks before. No condition. -/
import Derived.Test.YtoklobcagaolmaaGreatDoorTb
import Derived.KernelRfl

namespace Go.Proofs.YtoklobcagaolmaaGreatDoor.SE
set_option maxRecDepth 1000000
theorem good0 : ∀ t0 t1, segT (ex lb1 (envL (Γgood 0) P0 exts0) (SU 0 now0 now1 t0 t1)) isNorm 18 63 s63 τ0 (tmU 1 now1) (wE t0 t1 (hU 1 now1 now2)) = (true, t0, t1) := fun t0 t1 => by kernel_rfl
theorem good1 : ∀ t0 t1, segT (ex lb1 (envL (Γgood 1) P0 exts0) (SU 1 now1 now2 t0 t1)) isNorm 18 63 s63 τ0 (tmU 2 now2) (wE t0 t1 (hU 2 now2 now3)) = (true, t0, t1) := fun t0 t1 => by kernel_rfl
theorem good2 : ∀ t0 t1, segT (ex lb1 (envL (Γgood 2) P0 exts0) (SU 2 now2 now3 t0 t1)) isNorm 18 63 s63 τ0 (tmU 3 now3) (wE t0 t1 (hU 3 now3 now4)) = (true, t0, t1) := fun t0 t1 => by kernel_rfl
theorem good3 : ∀ t0 t1, segT (ex lb1 (envL (Γgood 3) P0 exts0) (SU 3 now3 now4 t0 t1)) isNorm 18 63 s63 τ0 (tmU 4 now4) (wE t0 t1 (hU 4 now4 now5)) = (true, t0, t1) := fun t0 t1 => by kernel_rfl
theorem good4 : ∀ t0 t1, segT (ex lb1 (envL (Γgood 4) P0 exts0) (SU 4 now4 now5 t0 t1)) isNorm 18 63 s63 τ0 (tmU 5 now5) (wE t0 t1 (hU 5 now5 now6)) = (true, t0, t1) := fun t0 t1 => by kernel_rfl
theorem good5 : ∀ t0 t1, segT (ex lb1 (envL (Γgood 5) P0 exts0) (SU 5 now5 now6 t0 t1)) isNorm 18 63 s63 τ0 (tmU 6 now6) (wE t0 t1 (hU 6 now6 now7)) = (true, t0, t1) := fun t0 t1 => by kernel_rfl
theorem good6 : ∀ t0 t1, segT (ex lb1 (envL (Γgood 6) P0 exts0) (SU 6 now6 now7 t0 t1)) isNorm 18 63 s63 τ0 (tmU 7 now7) (wE t0 t1 (hU 7 now7 now8)) = (true, t0, t1) := fun t0 t1 => by kernel_rfl
end Go.Proofs.YtoklobcagaolmaaGreatDoor.SE
