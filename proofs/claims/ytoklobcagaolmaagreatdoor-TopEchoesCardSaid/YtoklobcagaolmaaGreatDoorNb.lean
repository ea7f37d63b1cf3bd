/- WHAT THE ROW's listed variables give: the two errors' blocks. Condition: the row's own (laidMetH). -/
import Derived.Test.YtoklobcagaolmaaGreatDoorTc
import Derived.Test.YtoklobcagaolmaaGreatDoorNa
import Derived.ChangeSame
import Derived.ChangeVars
import Derived.JoinedOf
import Derived.RowKit
import Derived.RowKitTokens
import Derived.LaidLaws
import Derived.LaidHandle
import Derived.LaidSub
import Derived.Stop.Joined

namespace Go.Proofs.YtoklobcagaolmaaGreatDoor
open Go.ChangeShapes Go.WideShapes Go.RowKit
set_option maxRecDepth 1000000

theorem own : ownKnob Tryz.prog.godebug = none := by kernel_rfl
theorem gConf : Tryz.prog.globalNamed "tether/conf.errLine" = some 1 := by kernel_rfl
theorem gSecret : Tryz.prog.globalNamed "tether/secret.errLine" = some 0 := by kernel_rfl
theorem tConf : (Tryz.prog.globals[1]?).map (·.type) = some 176 := by kernel_rfl
theorem tSecret : (Tryz.prog.globals[0]?).map (·.type) = some 176 := by kernel_rfl
theorem cells770 : Tryz.prog.cellsOf 770 = 1 := by kernel_rfl
theorem cells9 : Tryz.prog.cellsOf 9 = 1 := by kernel_rfl
theorem two_laid : (Rows.topEchoesRow.laid.filter fun x => x.1 == "tether/conf.errLine" || x.1 == "tether/secret.errLine") =
    [("tether/conf.errLine", Rows.laid_tether_conf_errLine), ("tether/secret.errLine", Rows.laid_tether_secret_errLine)] := by kernel_rfl

theorem spot_of_cell {W : World} {a : Addr} {v : Value} (h : W.cell? a = some v) : a.spot = none := by
  unfold World.cell? at h
  split at h
  · cases hs : a.spot with
    | none => rfl
    | some s => rw [hs] at h; simp at h
  · cases h

/-- what the listed variables give: the two errors' cells -/
theorem errs_of_laid {W : World} (h : laidMetH Tryz.prog Rows.topEchoesRow.laid W) : ∃ (a0 a1 : Addr) (t0 t1 : TypeId),
    W.heap[0]? = some (.cells #[.iface 768 (.pointer (some a0))] t0 (0, 0)) ∧ a0.spot = none ∧ W.heap[1]? = some (.cells #[.iface 768 (.pointer (some a1))] t1 (0, 0)) ∧ a1.spot = none := by
  have h2 := h.filter (fun x => x.1 == "tether/conf.errLine" || x.1 == "tether/secret.errLine")
  rw [two_laid] at h2
  have h3 : laidMet Tryz.prog [("tether/conf.errLine", Rows.laid_tether_conf_errLine), ("tether/secret.errLine", Rows.laid_tether_secret_errLine)] W := h2
  obtain ⟨ps, ⟨g0, t0, cs0, f0, p0, q0, hg0, ht0, hv0, hd0, ⟨g1, t1, cs1, f1, p1, q1, hg1, ht1, hv1, hd1, hq1, e1⟩, e0⟩, hnd, hrows⟩ := h3
  obtain rfl := Option.some.inj (gConf.symm.trans hg0)
  obtain rfl := Option.some.inj (gSecret.symm.trans hg1)
  obtain rfl := Option.some.inj (tConf.symm.trans ht0)
  obtain rfl := Option.some.inj (tSecret.symm.trans ht1)
  have hq1' : q1 = [] := hq1
  subst hq1'
  subst e1
  subst e0
  obtain ⟨l0⟩ := cs0
  obtain ⟨l1⟩ := cs1
  have ok0 : ∀ u v, l0 = [.iface u v] → Value.okWide Tryz.prog W .any 0 u v := fun u v e => by
    subst e
    exact (hrows 1 0 (by simp [MemPlace.row])).2 u v (by simpa using World.var?_cell hg0 hv0 0)
  have ok1 : ∀ u v, l1 = [.iface u v] → Value.okWide Tryz.prog W .any 0 u v := fun u v e => by
    subst e
    exact (hrows 0 0 (by simp [MemPlace.row])).2 u v (by simpa using World.var?_cell hg1 hv1 0)
  obtain ⟨a1, s1, rfl, hc1, hs1, hz1, rfl⟩ := errorString_of_trod Tryz.underlying176 row768 Tryz.underlying768 Tryz.underlying770 rfl rfl Tryz.underlying9 cells770 cells9 hd0 ok0
  obtain ⟨a0, s0, rfl, hc0, hs0, hz0, rfl⟩ := errorString_of_trod Tryz.underlying176 row768 Tryz.underlying768 Tryz.underlying770 rfl rfl Tryz.underlying9 cells770 cells9 hd1 ok1
  have blk : ∀ (g : Nat) (n : String) (cs : Array Value), Tryz.prog.globalNamed n = some g → W.var? Tryz.prog n = some cs → (∃ c t, W.heap[g]? = some (.cells c t)) → ∃ t, W.heap[g]? = some (.cells cs t (0, 0)) := by
    intro g n cs hg hv hr
    obtain ⟨c, t, hct⟩ := hr
    unfold World.var? at hv
    rw [hg] at hv
    simp only [Option.bind_some, hct] at hv
    cases hv
    exact ⟨t, hct⟩
  obtain ⟨u1, hb1⟩ := blk 1 _ _ gConf hv0 (hrows 1 0 (by simp [MemPlace.row])).1
  obtain ⟨u0, hb0⟩ := blk 0 _ _ gSecret hv1 (hrows 0 0 (by simp [MemPlace.row])).1
  exact ⟨a0, a1, u0, u1, hb0, spot_of_cell hc0, hb1, spot_of_cell hc1⟩
end Go.Proofs.YtoklobcagaolmaaGreatDoor
