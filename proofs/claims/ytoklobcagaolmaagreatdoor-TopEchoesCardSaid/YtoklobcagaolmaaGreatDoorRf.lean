/- RUNS by the kernel: a tick that is not answered, one for each number of ticks before. No condition. -/
import Derived.Test.YtoklobcagaolmaaGreatDoorTb
import Derived.KernelRfl

namespace Go.Proofs.YtoklobcagaolmaaGreatDoor.SE
set_option maxRecDepth 1000000
theorem sil0 : ∀ t0 t1, segT (ex lb1 (envL (Γsil 0) P0 exts0) (SU 0 now0 now1 t0 t1)) isNorm 18 63 s63 τ1 (tmU 1 now1) (wE t0 t1 (hU 1 now1 now2)) = (true, t0, t1) := fun t0 t1 => by kernel_rfl
theorem sil1 : ∀ t0 t1, segT (ex lb1 (envL (Γsil 1) P0 exts0) (SU 1 now1 now2 t0 t1)) isNorm 18 63 s63 τ1 (tmU 2 now2) (wE t0 t1 (hU 2 now2 now3)) = (true, t0, t1) := fun t0 t1 => by kernel_rfl
theorem sil2 : ∀ t0 t1, segT (ex lb1 (envL (Γsil 2) P0 exts0) (SU 2 now2 now3 t0 t1)) isNorm 18 63 s63 τ1 (tmU 3 now3) (wE t0 t1 (hU 3 now3 now4)) = (true, t0, t1) := fun t0 t1 => by kernel_rfl
theorem sil3 : ∀ t0 t1, segT (ex lb1 (envL (Γsil 3) P0 exts0) (SU 3 now3 now4 t0 t1)) isNorm 18 63 s63 τ1 (tmU 4 now4) (wE t0 t1 (hU 4 now4 now5)) = (true, t0, t1) := fun t0 t1 => by kernel_rfl
theorem sil4 : ∀ t0 t1, segT (ex lb1 (envL (Γsil 4) P0 exts0) (SU 4 now4 now5 t0 t1)) isNorm 18 63 s63 τ1 (tmU 5 now5) (wE t0 t1 (hU 5 now5 now6)) = (true, t0, t1) := fun t0 t1 => by kernel_rfl
theorem sil5 : ∀ t0 t1, segT (ex lb1 (envL (Γsil 5) P0 exts0) (SU 5 now5 now6 t0 t1)) isNorm 18 63 s63 τ1 (tmU 6 now6) (wE t0 t1 (hU 6 now6 now7)) = (true, t0, t1) := fun t0 t1 => by kernel_rfl
theorem sil6 : ∀ t0 t1, segT (ex lb1 (envL (Γsil 6) P0 exts0) (SU 6 now6 now7 t0 t1)) isNorm 18 63 s63 τ1 (tmU 7 now7) (wE t0 t1 (hU 7 now7 now8)) = (true, t0, t1) := fun t0 t1 => by kernel_rfl
theorem sil7 : ∀ t0 t1, segT (ex lb1 (envL (Γsil 7) P0 exts0) (SU 7 now7 now8 t0 t1)) isNorm 18 63 s63 τ1 (tmU 8 now8) (wE t0 t1 (hU 8 now8 now9)) = (true, t0, t1) := fun t0 t1 => by kernel_rfl
theorem sil8 : ∀ t0 t1, segT (ex lb1 (envL (Γsil 8) P0 exts0) (SU 8 now8 now9 t0 t1)) isNorm 18 63 s63 τ1 (tmU 9 now9) (wE t0 t1 (hU 9 now9 now10)) = (true, t0, t1) := fun t0 t1 => by kernel_rfl
theorem sil9 : ∀ t0 t1, segT (ex lb1 (envL (Γsil 9) P0 exts0) (SU 9 now9 now10 t0 t1)) isNorm 18 63 s63 τ1 (tmU 10 now10) (wE t0 t1 (hU 10 now10 now11)) = (true, t0, t1) := fun t0 t1 => by kernel_rfl
theorem sil10 : ∀ t0 t1, segT (ex lb1 (envL (Γsil 10) P0 exts0) (SU 10 now10 now11 t0 t1)) isNorm 18 63 s63 τ1 (tmU 11 now11) (wE t0 t1 (hU 11 now11 now12)) = (true, t0, t1) := fun t0 t1 => by kernel_rfl
theorem sil11 : ∀ t0 t1, segT (ex lb1 (envL (Γsil 11) P0 exts0) (SU 11 now11 now12 t0 t1)) isNorm 18 63 s63 τ1 (tmU 12 now12) (wE t0 t1 (hU 12 now12 now13)) = (true, t0, t1) := fun t0 t1 => by kernel_rfl
end Go.Proofs.YtoklobcagaolmaaGreatDoor.SE
