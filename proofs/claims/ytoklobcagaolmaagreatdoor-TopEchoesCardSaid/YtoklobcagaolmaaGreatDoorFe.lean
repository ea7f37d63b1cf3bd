/- THE PROGRAM names no stop. No condition. -/
import Derived.JoinedOf
import Derived.KernelRfl
import Derived.Test.YtoklobcagaolmaaGreatDoorRows

namespace Go.Proofs.YtoklobcagaolmaaGreatDoor
set_option maxRecDepth 1000000
theorem j5 : ((Rows.topEchoesRow.stops == [])) = true := by kernel_rfl
theorem j6 : ((Tryz.prog.stops == [])) = true := by kernel_rfl
theorem eraseDups_none {l : List String} (h : l.eraseDups = []) : l = [] := by
  cases l with
  | nil => rfl
  | cons x l => rw [List.eraseDups_cons] at h; cases h
theorem rows_none {P : Program} (h : (P.stops == []) = true) : ∀ fn ∈ P.funcs.toList, Stop.rowOf fn = none := by
  have h1 : P.stops = [] := by simpa using h
  unfold Program.stops at h1
  have h2 := List.filterMap_eq_nil_iff.1 (eraseDups_none h1)
  intro fn hfn
  have := h2 fn hfn
  cases hr : Stop.rowOf fn with
  | none => rfl
  | some r => rw [hr] at this; cases this
theorem knobs_none {P : Program} (h : (P.stops == []) = true) : (P.stopKnobs == []) = true := by
  have e : P.funcs.toList.filterMap Stop.rowOf = [] := List.filterMap_eq_nil_iff.2 (rows_none h)
  unfold Program.stopKnobs
  rw [e]
  rfl
theorem heard_none {P : Program} (h : (P.stops == []) = true) : P.stopsHeard = true := by
  unfold Program.stopsHeard
  rw [Array.all_eq_true]
  intro i hi
  rw [rows_none h _ (Array.getElem_mem_toList hi)]
  rfl
theorem j7 : ((Rows.topEchoesRow.knobs == [])) = true := by kernel_rfl
theorem j8 : ((Tryz.prog.stopKnobs == [])) = true := knobs_none j6
theorem j24 : (Tryz.prog.stopsHeard) = true := heard_none j6
end Go.Proofs.YtoklobcagaolmaaGreatDoor
