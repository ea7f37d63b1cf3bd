/- A RUN by the kernel: two joined daemons, 'every' of three digits. No condition. -/
import Derived.Test.YtoklobcagaolmaaGreatDoorTb
import Derived.KernelRfl

namespace Go.Proofs.YtoklobcagaolmaaGreatDoor.SE
set_option maxRecDepth 1000000
theorem runj3 : ∀ t0 t1, segT (exs (items 3 lawJ) (envL Γj3 P0 exts0) (S03 t0 t1)) isNorm 18 nJ sJ τj3 tmJ (wE t0 t1 hJ) = (true, t0, t1) := fun t0 t1 => by kernel_rfl
end Go.Proofs.YtoklobcagaolmaaGreatDoor.SE
