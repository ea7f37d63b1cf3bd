/- A WORLD that meets the row's condition, part 2. No condition. -/
import Derived.Test.YtoklobcagaolmaaGreatDoorNc

namespace Go.Proofs.YtoklobcagaolmaaGreatDoor
set_option maxRecDepth 1000000
theorem laid_c (os : Os) (args : Array Value) : (Rows.topEchoesRow.laid.filter fun x => x.2.handleName?.isSome).all (handleAtB Tryz.prog ((laidWorld os).forCall (fun _ _ => 0) ⟨#[], args, []⟩).memory) = true := by kernel_rfl
theorem laidWorld_met (os : Os) (args : Array Value) : laidMetH Tryz.prog Rows.topEchoesRow.laid ((laidWorld os).forCall (fun _ _ => 0) ⟨#[], args, []⟩).memory :=
  laidMetH_of_parts (lay_met os args) (laid_c os args)
theorem laidWorld_os (os : Os) : (laidWorld os).os = os := World.layVars_os _ _ _
theorem wit_a (os : Os) : World.variablesZipB Tryz.prog ((laidWorld os).forCall (fun _ _ => 0) ⟨#[], args0, []⟩) = true := by kernel_rfl
theorem wit_b (os : Os) : List.take ((begin Tryz.prog (fun _ _ => 0) default).world.heap.size - Tryz.prog.globals.size) (List.drop Tryz.prog.globals.size ((laidWorld os).forCall (fun _ _ => 0) ⟨#[], args0, []⟩).heap.toList) = List.drop Tryz.prog.globals.size (begin Tryz.prog (fun _ _ => 0) default).world.heap.toList := by kernel_rfl
theorem wit_c (os : Os) : Input.okWideB Tryz.prog ((laidWorld os).forCall (fun _ _ => 0) ⟨#[], args0, []⟩) 3 ⟨#[], args0, []⟩ = true := by kernel_rfl
theorem wit_d (os : Os) (H : Type) (enc : TypeId × Value → H) : ChangeSpec.preB enc Tryz.prog Tryz.f3 Rows.topEchoesSpec [] false ((laidWorld os).forCall (fun _ _ => 0) ⟨#[], args0, []⟩).memory args0 8 = true := by kernel_rfl
theorem wit_e (os : Os) (H : Type) (enc : TypeId × Value → H) : ChangeSpec.sizedB enc Tryz.prog Tryz.f3 Rows.topEchoesSpec false ((laidWorld os).forCall (fun _ _ => 0) ⟨#[], args0, []⟩).memory args0 8 = true := by kernel_rfl
end Go.Proofs.YtoklobcagaolmaaGreatDoor
