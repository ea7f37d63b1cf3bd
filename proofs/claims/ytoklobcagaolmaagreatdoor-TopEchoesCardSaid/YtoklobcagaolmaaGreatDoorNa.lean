/- THE NAME *errors.errorString is one type's alone. No condition. -/
import Derived.Test.YtoklobcagaolmaaGreatDoorRows
import Derived.LaidLaws

namespace Go.Proofs.YtoklobcagaolmaaGreatDoor
set_option maxRecDepth 1000000
noncomputable def nameB (u : Nat) : Bool := Tryz.prog.typeName? 3 u != some ("*" ++ "errors.errorString") || u == 768
noncomputable def namedB (e : Nat) : Bool := Tryz.prog.typeName? 2 e != some "errors.errorString" || (match (Tryz.prog.info? e).map (·.desc) with | some (TypeDesc.named _ _) => true | _ => false)
theorem all_of_chunks {p : Nat → Bool} (h : ∀ k, k < 9 → ((List.range 100).all fun j => p (100 * k + j)) = true) (h8 : ((List.range 94).all fun j => p (900 + j)) = true) : (List.range 994).all p = true := by
  rw [List.all_eq_true]
  intro u hu
  have hu := List.mem_range.1 hu
  by_cases h1 : u < 900
  · have := List.all_eq_true.1 (h (u / 100) (by omega)) (u % 100) (List.mem_range.2 (by omega))
    rwa [show 100 * (u / 100) + u % 100 = u by omega] at this
  · have := List.all_eq_true.1 h8 (u - 900) (List.mem_range.2 (by omega))
    rwa [show 900 + (u - 900) = u by omega] at this
theorem nameB0 : ((List.range 100).all fun j => nameB (100 * 0 + j)) = true := by kernel_rfl
theorem nameB1 : ((List.range 100).all fun j => nameB (100 * 1 + j)) = true := by kernel_rfl
theorem nameB2 : ((List.range 100).all fun j => nameB (100 * 2 + j)) = true := by kernel_rfl
theorem nameB3 : ((List.range 100).all fun j => nameB (100 * 3 + j)) = true := by kernel_rfl
theorem nameB4 : ((List.range 100).all fun j => nameB (100 * 4 + j)) = true := by kernel_rfl
theorem nameB5 : ((List.range 100).all fun j => nameB (100 * 5 + j)) = true := by kernel_rfl
theorem nameB6 : ((List.range 100).all fun j => nameB (100 * 6 + j)) = true := by kernel_rfl
theorem nameB7 : ((List.range 100).all fun j => nameB (100 * 7 + j)) = true := by kernel_rfl
theorem nameB8 : ((List.range 100).all fun j => nameB (100 * 8 + j)) = true := by kernel_rfl
theorem nameB9 : ((List.range 94).all fun j => nameB (900 + j)) = true := by kernel_rfl
theorem nameB_all : (List.range 994).all nameB = true := all_of_chunks (fun k hk => by
  rcases k with _ | _ | _ | _ | _ | _ | _ | _ | _ | k
  · exact nameB0
  · exact nameB1
  · exact nameB2
  · exact nameB3
  · exact nameB4
  · exact nameB5
  · exact nameB6
  · exact nameB7
  · exact nameB8
  · omega) nameB9
theorem namedB0 : ((List.range 100).all fun j => namedB (100 * 0 + j)) = true := by kernel_rfl
theorem namedB1 : ((List.range 100).all fun j => namedB (100 * 1 + j)) = true := by kernel_rfl
theorem namedB2 : ((List.range 100).all fun j => namedB (100 * 2 + j)) = true := by kernel_rfl
theorem namedB3 : ((List.range 100).all fun j => namedB (100 * 3 + j)) = true := by kernel_rfl
theorem namedB4 : ((List.range 100).all fun j => namedB (100 * 4 + j)) = true := by kernel_rfl
theorem namedB5 : ((List.range 100).all fun j => namedB (100 * 5 + j)) = true := by kernel_rfl
theorem namedB6 : ((List.range 100).all fun j => namedB (100 * 6 + j)) = true := by kernel_rfl
theorem namedB7 : ((List.range 100).all fun j => namedB (100 * 7 + j)) = true := by kernel_rfl
theorem namedB8 : ((List.range 100).all fun j => namedB (100 * 8 + j)) = true := by kernel_rfl
theorem namedB9 : ((List.range 94).all fun j => namedB (900 + j)) = true := by kernel_rfl
theorem namedB_all : (List.range 994).all namedB = true := all_of_chunks (fun k hk => by
  rcases k with _ | _ | _ | _ | _ | _ | _ | _ | _ | k
  · exact namedB0
  · exact namedB1
  · exact namedB2
  · exact namedB3
  · exact namedB4
  · exact namedB5
  · exact namedB6
  · exact namedB7
  · exact namedB8
  · omega) namedB9
theorem star : "*" ++ "errors.errorString" = "*errors.errorString" := by decide
theorem row768 (u : TypeId) (h : Tryz.prog.typeName? 3 u = some "*errors.errorString") : u = 768 :=
  typeName_ptr_named (nm := "errors.errorString") (by rw [Tryz.types_size]; exact nameB_all) (by rw [Tryz.types_size]; exact namedB_all) (by decide) u (by rw [star]; exact h)
end Go.Proofs.YtoklobcagaolmaaGreatDoor
