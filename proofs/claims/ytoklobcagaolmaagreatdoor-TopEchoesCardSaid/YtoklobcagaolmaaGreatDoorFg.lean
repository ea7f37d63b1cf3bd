/- EVERY MAP of the program has a type for its elements, piece by piece. No condition. -/
import Derived.JoinedOf
import Derived.KernelRfl
import Derived.Test.YtoklobcagaolmaaGreatDoorRows

namespace Go.Proofs.YtoklobcagaolmaaGreatDoor
set_option maxRecDepth 1000000
noncomputable def mrB (t : Nat) : Bool := match Tryz.prog.underlying t with | some (.map _ e) => decide (e < 994) | _ => true
theorem mr0 : ((List.range 50).all fun j => mrB (0 + j)) = true := by kernel_rfl
theorem mr1 : ((List.range 50).all fun j => mrB (50 + j)) = true := by kernel_rfl
theorem mr2 : ((List.range 50).all fun j => mrB (100 + j)) = true := by kernel_rfl
theorem mr3 : ((List.range 50).all fun j => mrB (150 + j)) = true := by kernel_rfl
theorem mr4 : ((List.range 50).all fun j => mrB (200 + j)) = true := by kernel_rfl
theorem mr5 : ((List.range 50).all fun j => mrB (250 + j)) = true := by kernel_rfl
theorem mr6 : ((List.range 50).all fun j => mrB (300 + j)) = true := by kernel_rfl
theorem mr7 : ((List.range 50).all fun j => mrB (350 + j)) = true := by kernel_rfl
theorem mr8 : ((List.range 50).all fun j => mrB (400 + j)) = true := by kernel_rfl
theorem mr9 : ((List.range 50).all fun j => mrB (450 + j)) = true := by kernel_rfl
theorem mr10 : ((List.range 50).all fun j => mrB (500 + j)) = true := by kernel_rfl
theorem mr11 : ((List.range 50).all fun j => mrB (550 + j)) = true := by kernel_rfl
theorem mr12 : ((List.range 50).all fun j => mrB (600 + j)) = true := by kernel_rfl
theorem mr13 : ((List.range 50).all fun j => mrB (650 + j)) = true := by kernel_rfl
theorem mr14 : ((List.range 50).all fun j => mrB (700 + j)) = true := by kernel_rfl
theorem mr15 : ((List.range 50).all fun j => mrB (750 + j)) = true := by kernel_rfl
theorem mr16 : ((List.range 50).all fun j => mrB (800 + j)) = true := by kernel_rfl
theorem mr17 : ((List.range 50).all fun j => mrB (850 + j)) = true := by kernel_rfl
theorem mr18 : ((List.range 50).all fun j => mrB (900 + j)) = true := by kernel_rfl
theorem mr19 : ((List.range 44).all fun j => mrB (950 + j)) = true := by kernel_rfl
theorem mr_all : (List.range 994).all mrB = true := by
  rw [List.all_eq_true]
  intro i hi
  have hi := List.mem_range.1 hi
  have hk : i / 50 = 0 ∨ i / 50 = 1 ∨ i / 50 = 2 ∨ i / 50 = 3 ∨ i / 50 = 4 ∨ i / 50 = 5 ∨ i / 50 = 6 ∨ i / 50 = 7 ∨ i / 50 = 8 ∨ i / 50 = 9 ∨ i / 50 = 10 ∨ i / 50 = 11 ∨ i / 50 = 12 ∨ i / 50 = 13 ∨ i / 50 = 14 ∨ i / 50 = 15 ∨ i / 50 = 16 ∨ i / 50 = 17 ∨ i / 50 = 18 ∨ i / 50 = 19 := by omega
  rcases hk with h | h | h | h | h | h | h | h | h | h | h | h | h | h | h | h | h | h | h | h
  · have := List.all_eq_true.1 mr0 (i - 0) (List.mem_range.2 (by omega))
    rwa [show 0 + (i - 0) = i by omega] at this
  · have := List.all_eq_true.1 mr1 (i - 50) (List.mem_range.2 (by omega))
    rwa [show 50 + (i - 50) = i by omega] at this
  · have := List.all_eq_true.1 mr2 (i - 100) (List.mem_range.2 (by omega))
    rwa [show 100 + (i - 100) = i by omega] at this
  · have := List.all_eq_true.1 mr3 (i - 150) (List.mem_range.2 (by omega))
    rwa [show 150 + (i - 150) = i by omega] at this
  · have := List.all_eq_true.1 mr4 (i - 200) (List.mem_range.2 (by omega))
    rwa [show 200 + (i - 200) = i by omega] at this
  · have := List.all_eq_true.1 mr5 (i - 250) (List.mem_range.2 (by omega))
    rwa [show 250 + (i - 250) = i by omega] at this
  · have := List.all_eq_true.1 mr6 (i - 300) (List.mem_range.2 (by omega))
    rwa [show 300 + (i - 300) = i by omega] at this
  · have := List.all_eq_true.1 mr7 (i - 350) (List.mem_range.2 (by omega))
    rwa [show 350 + (i - 350) = i by omega] at this
  · have := List.all_eq_true.1 mr8 (i - 400) (List.mem_range.2 (by omega))
    rwa [show 400 + (i - 400) = i by omega] at this
  · have := List.all_eq_true.1 mr9 (i - 450) (List.mem_range.2 (by omega))
    rwa [show 450 + (i - 450) = i by omega] at this
  · have := List.all_eq_true.1 mr10 (i - 500) (List.mem_range.2 (by omega))
    rwa [show 500 + (i - 500) = i by omega] at this
  · have := List.all_eq_true.1 mr11 (i - 550) (List.mem_range.2 (by omega))
    rwa [show 550 + (i - 550) = i by omega] at this
  · have := List.all_eq_true.1 mr12 (i - 600) (List.mem_range.2 (by omega))
    rwa [show 600 + (i - 600) = i by omega] at this
  · have := List.all_eq_true.1 mr13 (i - 650) (List.mem_range.2 (by omega))
    rwa [show 650 + (i - 650) = i by omega] at this
  · have := List.all_eq_true.1 mr14 (i - 700) (List.mem_range.2 (by omega))
    rwa [show 700 + (i - 700) = i by omega] at this
  · have := List.all_eq_true.1 mr15 (i - 750) (List.mem_range.2 (by omega))
    rwa [show 750 + (i - 750) = i by omega] at this
  · have := List.all_eq_true.1 mr16 (i - 800) (List.mem_range.2 (by omega))
    rwa [show 800 + (i - 800) = i by omega] at this
  · have := List.all_eq_true.1 mr17 (i - 850) (List.mem_range.2 (by omega))
    rwa [show 850 + (i - 850) = i by omega] at this
  · have := List.all_eq_true.1 mr18 (i - 900) (List.mem_range.2 (by omega))
    rwa [show 900 + (i - 900) = i by omega] at this
  · have := List.all_eq_true.1 mr19 (i - 950) (List.mem_range.2 (by omega))
    rwa [show 950 + (i - 950) = i by omega] at this
theorem j2 : (mapsRowed Tryz.prog) = true := by
  unfold mapsRowed
  rw [Tryz.types_size]
  exact mr_all
end Go.Proofs.YtoklobcagaolmaaGreatDoor
