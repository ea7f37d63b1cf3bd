/- A WORLD that meets the row's condition. No condition. -/
import Derived.Test.YtekdmgmdhhkaoaaGreatDoorRows
import Derived.ChangeSame
import Derived.ChangeVars
import Derived.JoinedOf
import Derived.RowKit
import Derived.LaidLaws
import Derived.LaidHandle

namespace Go.Proofs.YtekdmgmdhhkaoaaGreatDoor
set_option maxRecDepth 1000000

/-! ## a world that meets the row's condition -/
mutual
noncomputable def dataCells : DataW Unit → List Value
  | .lit (.int k n) => [.int k n]
  | .agg l => dataCellsAll l
  | _ => []
noncomputable def dataCellsAll : List (DataW Unit) → List Value
  | [] => []
  | d :: l => dataCells d ++ dataCellsAll l
end
noncomputable def errText : DataW Unit → ByteArray
  | .iface _ (.ptr (.agg [.lit (.string b)])) => ⟨b.toArray⟩
  | _ => ⟨#[]⟩
noncomputable def layAt (h : Array Obj) (g : Nat) (cs : List Value) : Array Obj := h.modify g fun
  | .cells _ t frozen => .cells cs.toArray t frozen
  | o => o
noncomputable def low : Nat := (World.holding Tryz.prog default ⟨#[], #[], []⟩).heap.size
noncomputable def errBlock (d : DataW Unit) : Obj := .cells #[.string (errText d)] 600
noncomputable def errCell (k : Nat) : List Value := [.iface 598 (.pointer (some ⟨low + k, 0, none⟩))]
noncomputable def laidWorld (os : Os) : World :=
  let w0 := World.holding Tryz.prog os ⟨#[errBlock Rows.laid_tether_secret_errLine, errBlock Rows.laid_tether_conf_errLine, errBlock Rows.laid_strconv_ErrSyntax, errBlock Rows.laid_strconv_ErrRange], #[], []⟩
  { w0 with heap := layAt (layAt (layAt (layAt (layAt (layAt (layAt (layAt (layAt (layAt w0.heap 0 (errCell 0)) 1 (errCell 1)) 4 (errCell 2)) 5 (errCell 3))
      2 [.iface 339 (.agg #[.pointer (some ⟨12, 93, none⟩)])]) 7 (dataCells Rows.laid_unicode_utf8_first)) 8 (dataCells Rows.laid_unicode_utf8_acceptRanges))
      9 (dataCells Rows.laid_internal_strconv_uint64pow10)) 10 (dataCells Rows.laid_math_bits_deBruijn32tab)) 11 (dataCells Rows.laid_math_bits_deBruijn64tab) }
abbrev args0 : Array Value := #[.int .i64 0, .int .i64 0, .int .i64 0, .int .u64 0]
theorem laid_a (os : Os) (args : Array Value) : (DataW.laidRun Tryz.prog ((laidWorld os).forCall (fun _ _ => 0) ⟨#[], args, []⟩).memory 8 ((Rows.topTiresRow.laid.filter fun x => x.2.handleName?.isNone).map (·.1))).map (·.1) = some (Rows.topTiresRow.laid.filter fun x => x.2.handleName?.isNone) := by kernel_rfl
theorem laid_b (os : Os) (args : Array Value) : (DataW.laidRun Tryz.prog ((laidWorld os).forCall (fun _ _ => 0) ⟨#[], args, []⟩).memory 8 ((Rows.topTiresRow.laid.filter fun x => x.2.handleName?.isNone).map (·.1))).map (fun x => decide x.2.Nodup && laidRowsB Tryz.prog ((laidWorld os).forCall (fun _ _ => 0) ⟨#[], args, []⟩).memory x.2) = some true := by kernel_rfl
theorem laid_c (os : Os) (args : Array Value) : (Rows.topTiresRow.laid.filter fun x => x.2.handleName?.isSome).all (handleAtB Tryz.prog ((laidWorld os).forCall (fun _ _ => 0) ⟨#[], args, []⟩).memory) = true := by kernel_rfl
theorem laidWorld_met (os : Os) (args : Array Value) : laidMetH Tryz.prog Rows.topTiresRow.laid ((laidWorld os).forCall (fun _ _ => 0) ⟨#[], args, []⟩).memory :=
  laidMetH_of_parts (laidMet_of_run' 8 (laid_a os args) (laid_b os args)) (laid_c os args)
theorem wit_a (os : Os) : World.variablesB Tryz.prog ((laidWorld os).forCall (fun _ _ => 0) ⟨#[], args0, []⟩) = true := by kernel_rfl
theorem wit_b (os : Os) : List.take ((begin Tryz.prog (fun _ _ => 0) default).world.heap.size - Tryz.prog.globals.size) (List.drop Tryz.prog.globals.size ((laidWorld os).forCall (fun _ _ => 0) ⟨#[], args0, []⟩).heap.toList) = List.drop Tryz.prog.globals.size (begin Tryz.prog (fun _ _ => 0) default).world.heap.toList := by kernel_rfl
theorem wit_c (os : Os) : Input.okWideB Tryz.prog ((laidWorld os).forCall (fun _ _ => 0) ⟨#[], args0, []⟩) 3 ⟨#[], args0, []⟩ = true := by kernel_rfl
theorem wit_d (os : Os) (H : Type) (enc : TypeId × Value → H) : ChangeSpec.preB enc Tryz.prog Tryz.f3 Rows.topTiresSpec [] false ((laidWorld os).forCall (fun _ _ => 0) ⟨#[], args0, []⟩).memory args0 8 = true := by kernel_rfl
theorem wit_e (os : Os) (H : Type) (enc : TypeId × Value → H) : ChangeSpec.sizedB enc Tryz.prog Tryz.f3 Rows.topTiresSpec false ((laidWorld os).forCall (fun _ _ => 0) ⟨#[], args0, []⟩).memory args0 8 = true := by kernel_rfl
end Go.Proofs.YtekdmgmdhhkaoaaGreatDoor
