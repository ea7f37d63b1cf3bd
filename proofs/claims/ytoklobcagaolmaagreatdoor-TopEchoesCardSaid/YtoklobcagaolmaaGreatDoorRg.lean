/- RUNS by the kernel: the tick that ends the link, one for each number of ticks before. No condition. -/
import Derived.Test.YtoklobcagaolmaaGreatDoorTb
import Derived.KernelRfl

namespace Go.Proofs.YtoklobcagaolmaaGreatDoor.SE
set_option maxRecDepth 1000000
theorem exit1 : ∀ t0 t1, segT (ex lb1 (envL (Γexit 1) P0 exts0) (SU 1 now1 now2 t0 t1)) (isExit 0) 18 63 s63 [] (tmU 1 now1) (wE t0 t1 (hU 1 now1 now2)) = (true, t0, t1) := fun t0 t1 => by kernel_rfl
theorem end1 : ∀ t0 t1, segT (exs (items 5 lawB) (envL Γend P0 exts0) (SU 1 now1 now2 t0 t1)) isNorm 18 63 s63 (τk 2) tmD0 (wE t0 t1 (hD 1)) = (true, t0, t1) := fun t0 t1 => by kernel_rfl
theorem cnt1 : ∀ t0 t1, segT (exs (items 1 lawA2) (envL Γend P0 exts0) (SD0 1 t0 t1)) isNorm 18 63 s63 τc tmD (wE t0 t1 (hD 1)) = (true, t0, t1) := fun t0 t1 => by kernel_rfl
theorem exit2 : ∀ t0 t1, segT (ex lb1 (envL (Γexit 2) P0 exts0) (SU 2 now2 now3 t0 t1)) (isExit 0) 18 63 s63 [] (tmU 2 now2) (wE t0 t1 (hU 2 now2 now3)) = (true, t0, t1) := fun t0 t1 => by kernel_rfl
theorem end2 : ∀ t0 t1, segT (exs (items 5 lawB) (envL Γend P0 exts0) (SU 2 now2 now3 t0 t1)) isNorm 18 63 s63 (τk 3) tmD0 (wE t0 t1 (hD 2)) = (true, t0, t1) := fun t0 t1 => by kernel_rfl
theorem cnt2 : ∀ t0 t1, segT (exs (items 1 lawA2) (envL Γend P0 exts0) (SD0 2 t0 t1)) isNorm 18 63 s63 τc tmD (wE t0 t1 (hD 2)) = (true, t0, t1) := fun t0 t1 => by kernel_rfl
theorem exit3 : ∀ t0 t1, segT (ex lb1 (envL (Γexit 3) P0 exts0) (SU 3 now3 now4 t0 t1)) (isExit 0) 18 63 s63 [] (tmU 3 now3) (wE t0 t1 (hU 3 now3 now4)) = (true, t0, t1) := fun t0 t1 => by kernel_rfl
theorem end3 : ∀ t0 t1, segT (exs (items 5 lawB) (envL Γend P0 exts0) (SU 3 now3 now4 t0 t1)) isNorm 18 63 s63 (τk 4) tmD0 (wE t0 t1 (hD 3)) = (true, t0, t1) := fun t0 t1 => by kernel_rfl
theorem cnt3 : ∀ t0 t1, segT (exs (items 1 lawA2) (envL Γend P0 exts0) (SD0 3 t0 t1)) isNorm 18 63 s63 τc tmD (wE t0 t1 (hD 3)) = (true, t0, t1) := fun t0 t1 => by kernel_rfl
theorem exit4 : ∀ t0 t1, segT (ex lb1 (envL (Γexit 4) P0 exts0) (SU 4 now4 now5 t0 t1)) (isExit 0) 18 63 s63 [] (tmU 4 now4) (wE t0 t1 (hU 4 now4 now5)) = (true, t0, t1) := fun t0 t1 => by kernel_rfl
theorem end4 : ∀ t0 t1, segT (exs (items 5 lawB) (envL Γend P0 exts0) (SU 4 now4 now5 t0 t1)) isNorm 18 63 s63 (τk 5) tmD0 (wE t0 t1 (hD 4)) = (true, t0, t1) := fun t0 t1 => by kernel_rfl
theorem cnt4 : ∀ t0 t1, segT (exs (items 1 lawA2) (envL Γend P0 exts0) (SD0 4 t0 t1)) isNorm 18 63 s63 τc tmD (wE t0 t1 (hD 4)) = (true, t0, t1) := fun t0 t1 => by kernel_rfl
theorem exit5 : ∀ t0 t1, segT (ex lb1 (envL (Γexit 5) P0 exts0) (SU 5 now5 now6 t0 t1)) (isExit 0) 18 63 s63 [] (tmU 5 now5) (wE t0 t1 (hU 5 now5 now6)) = (true, t0, t1) := fun t0 t1 => by kernel_rfl
theorem end5 : ∀ t0 t1, segT (exs (items 5 lawB) (envL Γend P0 exts0) (SU 5 now5 now6 t0 t1)) isNorm 18 63 s63 (τk 6) tmD0 (wE t0 t1 (hD 5)) = (true, t0, t1) := fun t0 t1 => by kernel_rfl
theorem cnt5 : ∀ t0 t1, segT (exs (items 1 lawA2) (envL Γend P0 exts0) (SD0 5 t0 t1)) isNorm 18 63 s63 τc tmD (wE t0 t1 (hD 5)) = (true, t0, t1) := fun t0 t1 => by kernel_rfl
theorem exit6 : ∀ t0 t1, segT (ex lb1 (envL (Γexit 6) P0 exts0) (SU 6 now6 now7 t0 t1)) (isExit 0) 18 63 s63 [] (tmU 6 now6) (wE t0 t1 (hU 6 now6 now7)) = (true, t0, t1) := fun t0 t1 => by kernel_rfl
theorem end6 : ∀ t0 t1, segT (exs (items 5 lawB) (envL Γend P0 exts0) (SU 6 now6 now7 t0 t1)) isNorm 18 63 s63 (τk 7) tmD0 (wE t0 t1 (hD 6)) = (true, t0, t1) := fun t0 t1 => by kernel_rfl
theorem cnt6 : ∀ t0 t1, segT (exs (items 1 lawA2) (envL Γend P0 exts0) (SD0 6 t0 t1)) isNorm 18 63 s63 τc tmD (wE t0 t1 (hD 6)) = (true, t0, t1) := fun t0 t1 => by kernel_rfl
theorem exit7 : ∀ t0 t1, segT (ex lb1 (envL (Γexit 7) P0 exts0) (SU 7 now7 now8 t0 t1)) (isExit 0) 18 63 s63 [] (tmU 7 now7) (wE t0 t1 (hU 7 now7 now8)) = (true, t0, t1) := fun t0 t1 => by kernel_rfl
theorem end7 : ∀ t0 t1, segT (exs (items 5 lawB) (envL Γend P0 exts0) (SU 7 now7 now8 t0 t1)) isNorm 18 63 s63 (τk 8) tmD0 (wE t0 t1 (hD 7)) = (true, t0, t1) := fun t0 t1 => by kernel_rfl
theorem cnt7 : ∀ t0 t1, segT (exs (items 1 lawA2) (envL Γend P0 exts0) (SD0 7 t0 t1)) isNorm 18 63 s63 τc tmD (wE t0 t1 (hD 7)) = (true, t0, t1) := fun t0 t1 => by kernel_rfl
theorem exit8 : ∀ t0 t1, segT (ex lb1 (envL (Γexit 8) P0 exts0) (SU 8 now8 now9 t0 t1)) (isExit 0) 18 63 s63 [] (tmU 8 now8) (wE t0 t1 (hU 8 now8 now9)) = (true, t0, t1) := fun t0 t1 => by kernel_rfl
theorem end8 : ∀ t0 t1, segT (exs (items 5 lawB) (envL Γend P0 exts0) (SU 8 now8 now9 t0 t1)) isNorm 18 63 s63 (τk 9) tmD0 (wE t0 t1 (hD 8)) = (true, t0, t1) := fun t0 t1 => by kernel_rfl
theorem cnt8 : ∀ t0 t1, segT (exs (items 1 lawA2) (envL Γend P0 exts0) (SD0 8 t0 t1)) isNorm 18 63 s63 τc tmD (wE t0 t1 (hD 8)) = (true, t0, t1) := fun t0 t1 => by kernel_rfl
theorem exit9 : ∀ t0 t1, segT (ex lb1 (envL (Γexit 9) P0 exts0) (SU 9 now9 now10 t0 t1)) (isExit 0) 18 63 s63 [] (tmU 9 now9) (wE t0 t1 (hU 9 now9 now10)) = (true, t0, t1) := fun t0 t1 => by kernel_rfl
theorem end9 : ∀ t0 t1, segT (exs (items 5 lawB) (envL Γend P0 exts0) (SU 9 now9 now10 t0 t1)) isNorm 18 63 s63 (τk 10) tmD0 (wE t0 t1 (hD 9)) = (true, t0, t1) := fun t0 t1 => by kernel_rfl
theorem cnt9 : ∀ t0 t1, segT (exs (items 1 lawA2) (envL Γend P0 exts0) (SD0 9 t0 t1)) isNorm 18 63 s63 τc tmD (wE t0 t1 (hD 9)) = (true, t0, t1) := fun t0 t1 => by kernel_rfl
theorem exit10 : ∀ t0 t1, segT (ex lb1 (envL (Γexit 10) P0 exts0) (SU 10 now10 now11 t0 t1)) (isExit 0) 18 63 s63 [] (tmU 10 now10) (wE t0 t1 (hU 10 now10 now11)) = (true, t0, t1) := fun t0 t1 => by kernel_rfl
theorem end10 : ∀ t0 t1, segT (exs (items 5 lawB) (envL Γend P0 exts0) (SU 10 now10 now11 t0 t1)) isNorm 18 63 s63 (τk 11) tmD0 (wE t0 t1 (hD 10)) = (true, t0, t1) := fun t0 t1 => by kernel_rfl
theorem cnt10 : ∀ t0 t1, segT (exs (items 1 lawA2) (envL Γend P0 exts0) (SD0 10 t0 t1)) isNorm 18 63 s63 τc tmD (wE t0 t1 (hD 10)) = (true, t0, t1) := fun t0 t1 => by kernel_rfl
theorem exit11 : ∀ t0 t1, segT (ex lb1 (envL (Γexit 11) P0 exts0) (SU 11 now11 now12 t0 t1)) (isExit 0) 18 63 s63 [] (tmU 11 now11) (wE t0 t1 (hU 11 now11 now12)) = (true, t0, t1) := fun t0 t1 => by kernel_rfl
theorem end11 : ∀ t0 t1, segT (exs (items 5 lawB) (envL Γend P0 exts0) (SU 11 now11 now12 t0 t1)) isNorm 18 63 s63 (τk 12) tmD0 (wE t0 t1 (hD 11)) = (true, t0, t1) := fun t0 t1 => by kernel_rfl
theorem cnt11 : ∀ t0 t1, segT (exs (items 1 lawA2) (envL Γend P0 exts0) (SD0 11 t0 t1)) isNorm 18 63 s63 τc tmD (wE t0 t1 (hD 11)) = (true, t0, t1) := fun t0 t1 => by kernel_rfl
theorem exit12 : ∀ t0 t1, segT (ex lb1 (envL (Γexit 12) P0 exts0) (SU 12 now12 now13 t0 t1)) (isExit 0) 18 63 s63 [] (tmU 12 now12) (wE t0 t1 (hU 12 now12 now13)) = (true, t0, t1) := fun t0 t1 => by kernel_rfl
theorem end12 : ∀ t0 t1, segT (exs (items 5 lawB) (envL Γend P0 exts0) (SU 12 now12 now13 t0 t1)) isNorm 18 63 s63 (τk 13) tmD0 (wE t0 t1 (hD 12)) = (true, t0, t1) := fun t0 t1 => by kernel_rfl
theorem cnt12 : ∀ t0 t1, segT (exs (items 1 lawA2) (envL Γend P0 exts0) (SD0 12 t0 t1)) isNorm 18 63 s63 τc tmD (wE t0 t1 (hD 12)) = (true, t0, t1) := fun t0 t1 => by kernel_rfl
end Go.Proofs.YtoklobcagaolmaaGreatDoor.SE
