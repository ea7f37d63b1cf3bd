/- RUNS by the kernel: ticks behind the end, one for each number of ticks before. No condition. -/
import Derived.Test.YtoklobcagaolmaaGreatDoorTb
import Derived.KernelRfl

namespace Go.Proofs.YtoklobcagaolmaaGreatDoor.SE
set_option maxRecDepth 1000000
theorem idle1 : ∀ t0 t1, segT (ex lb2 (envL Γidle P0 exts0) (SD 1 t0 t1)) isNorm 18 63 s63 τi tmD (wE t0 t1 (hD 1)) = (true, t0, t1) := fun t0 t1 => by kernel_rfl
theorem first1 : ∀ t0 t1, segT (ex lb2 (envL Γfirst P0 exts0) (SD 1 t0 t1)) isNorm 18 63 s63 τf tmD (wE t0 t1 (hE)) = (true, t0, t1) := fun t0 t1 => by kernel_rfl
theorem idle2 : ∀ t0 t1, segT (ex lb2 (envL Γidle P0 exts0) (SD 2 t0 t1)) isNorm 18 63 s63 τi tmD (wE t0 t1 (hD 2)) = (true, t0, t1) := fun t0 t1 => by kernel_rfl
theorem first2 : ∀ t0 t1, segT (ex lb2 (envL Γfirst P0 exts0) (SD 2 t0 t1)) isNorm 18 63 s63 τf tmD (wE t0 t1 (hE)) = (true, t0, t1) := fun t0 t1 => by kernel_rfl
theorem idle3 : ∀ t0 t1, segT (ex lb2 (envL Γidle P0 exts0) (SD 3 t0 t1)) isNorm 18 63 s63 τi tmD (wE t0 t1 (hD 3)) = (true, t0, t1) := fun t0 t1 => by kernel_rfl
theorem first3 : ∀ t0 t1, segT (ex lb2 (envL Γfirst P0 exts0) (SD 3 t0 t1)) isNorm 18 63 s63 τf tmD (wE t0 t1 (hE)) = (true, t0, t1) := fun t0 t1 => by kernel_rfl
theorem idle4 : ∀ t0 t1, segT (ex lb2 (envL Γidle P0 exts0) (SD 4 t0 t1)) isNorm 18 63 s63 τi tmD (wE t0 t1 (hD 4)) = (true, t0, t1) := fun t0 t1 => by kernel_rfl
theorem first4 : ∀ t0 t1, segT (ex lb2 (envL Γfirst P0 exts0) (SD 4 t0 t1)) isNorm 18 63 s63 τf tmD (wE t0 t1 (hE)) = (true, t0, t1) := fun t0 t1 => by kernel_rfl
theorem idle5 : ∀ t0 t1, segT (ex lb2 (envL Γidle P0 exts0) (SD 5 t0 t1)) isNorm 18 63 s63 τi tmD (wE t0 t1 (hD 5)) = (true, t0, t1) := fun t0 t1 => by kernel_rfl
theorem first5 : ∀ t0 t1, segT (ex lb2 (envL Γfirst P0 exts0) (SD 5 t0 t1)) isNorm 18 63 s63 τf tmD (wE t0 t1 (hE)) = (true, t0, t1) := fun t0 t1 => by kernel_rfl
theorem idle6 : ∀ t0 t1, segT (ex lb2 (envL Γidle P0 exts0) (SD 6 t0 t1)) isNorm 18 63 s63 τi tmD (wE t0 t1 (hD 6)) = (true, t0, t1) := fun t0 t1 => by kernel_rfl
theorem first6 : ∀ t0 t1, segT (ex lb2 (envL Γfirst P0 exts0) (SD 6 t0 t1)) isNorm 18 63 s63 τf tmD (wE t0 t1 (hE)) = (true, t0, t1) := fun t0 t1 => by kernel_rfl
theorem idle7 : ∀ t0 t1, segT (ex lb2 (envL Γidle P0 exts0) (SD 7 t0 t1)) isNorm 18 63 s63 τi tmD (wE t0 t1 (hD 7)) = (true, t0, t1) := fun t0 t1 => by kernel_rfl
theorem first7 : ∀ t0 t1, segT (ex lb2 (envL Γfirst P0 exts0) (SD 7 t0 t1)) isNorm 18 63 s63 τf tmD (wE t0 t1 (hE)) = (true, t0, t1) := fun t0 t1 => by kernel_rfl
theorem idle8 : ∀ t0 t1, segT (ex lb2 (envL Γidle P0 exts0) (SD 8 t0 t1)) isNorm 18 63 s63 τi tmD (wE t0 t1 (hD 8)) = (true, t0, t1) := fun t0 t1 => by kernel_rfl
theorem first8 : ∀ t0 t1, segT (ex lb2 (envL Γfirst P0 exts0) (SD 8 t0 t1)) isNorm 18 63 s63 τf tmD (wE t0 t1 (hE)) = (true, t0, t1) := fun t0 t1 => by kernel_rfl
theorem idle9 : ∀ t0 t1, segT (ex lb2 (envL Γidle P0 exts0) (SD 9 t0 t1)) isNorm 18 63 s63 τi tmD (wE t0 t1 (hD 9)) = (true, t0, t1) := fun t0 t1 => by kernel_rfl
theorem first9 : ∀ t0 t1, segT (ex lb2 (envL Γfirst P0 exts0) (SD 9 t0 t1)) isNorm 18 63 s63 τf tmD (wE t0 t1 (hE)) = (true, t0, t1) := fun t0 t1 => by kernel_rfl
theorem idle10 : ∀ t0 t1, segT (ex lb2 (envL Γidle P0 exts0) (SD 10 t0 t1)) isNorm 18 63 s63 τi tmD (wE t0 t1 (hD 10)) = (true, t0, t1) := fun t0 t1 => by kernel_rfl
theorem first10 : ∀ t0 t1, segT (ex lb2 (envL Γfirst P0 exts0) (SD 10 t0 t1)) isNorm 18 63 s63 τf tmD (wE t0 t1 (hE)) = (true, t0, t1) := fun t0 t1 => by kernel_rfl
theorem idle11 : ∀ t0 t1, segT (ex lb2 (envL Γidle P0 exts0) (SD 11 t0 t1)) isNorm 18 63 s63 τi tmD (wE t0 t1 (hD 11)) = (true, t0, t1) := fun t0 t1 => by kernel_rfl
theorem first11 : ∀ t0 t1, segT (ex lb2 (envL Γfirst P0 exts0) (SD 11 t0 t1)) isNorm 18 63 s63 τf tmD (wE t0 t1 (hE)) = (true, t0, t1) := fun t0 t1 => by kernel_rfl
theorem idle12 : ∀ t0 t1, segT (ex lb2 (envL Γidle P0 exts0) (SD 12 t0 t1)) isNorm 18 63 s63 τi tmD (wE t0 t1 (hD 12)) = (true, t0, t1) := fun t0 t1 => by kernel_rfl
theorem first12 : ∀ t0 t1, segT (ex lb2 (envL Γfirst P0 exts0) (SD 12 t0 t1)) isNorm 18 63 s63 τf tmD (wE t0 t1 (hE)) = (true, t0, t1) := fun t0 t1 => by kernel_rfl
end Go.Proofs.YtoklobcagaolmaaGreatDoor.SE
