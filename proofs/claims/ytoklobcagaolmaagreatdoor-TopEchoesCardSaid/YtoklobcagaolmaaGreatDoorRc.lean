/- A RUN by the kernel: two joined daemons, 'every' of four digits. No condition. -/
import Derived.Test.YtoklobcagaolmaaGreatDoorTb
import Derived.KernelRfl

namespace Go.Proofs.YtoklobcagaolmaaGreatDoor.SE
set_option maxRecDepth 1000000
noncomputable def sJ4 : List Nat := [0, 1, 2, 3, 4, 5, 6, 7, 8, 9, 10, 11, 12, 13, 14, 15, 16, 17, 465, 316, 462, 463, 464, 267, 413, 881, 700, 42, 283, 315, 328, 429, 461, 274, 285, 286, 287, 292, 296, 310, 420, 431, 432, 433, 438, 442, 456, 288, 635, 599, 289, 293, 294, 434, 816, 780, 435, 439, 440]
theorem runj4 : ∀ t0 t1, segT (exs (items 3 lawJ) (envL Γj4 P0 exts0) (S04 t0 t1)) isNorm 18 nJ sJ4 τj4 tmJ (wE t0 t1 hJ) = (true, t0, t1) := fun t0 t1 => by kernel_rfl
end Go.Proofs.YtoklobcagaolmaaGreatDoor.SE
