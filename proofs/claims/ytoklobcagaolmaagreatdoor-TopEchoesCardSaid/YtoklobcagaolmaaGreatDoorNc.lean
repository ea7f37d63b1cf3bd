/- A WORLD that meets the row's condition, part 1: the listed data. No condition. -/
import Derived.Test.YtoklobcagaolmaaGreatDoorRows
import Derived.ChangeSame
import Derived.ChangeVars
import Derived.JoinedOf
import Derived.RowKit
import Derived.LaidLaws
import Derived.LaidHandle
import Derived.Lay

namespace Go.Proofs.YtoklobcagaolmaaGreatDoor
set_option maxRecDepth 1000000

/-! ## a world that meets the row's condition -/
noncomputable def layAt (h : Array Obj) (g : Nat) (cs : List Value) : Array Obj := h.modify g fun
  | .cells _ t frozen => .cells cs.toArray t frozen
  | o => o
noncomputable def errText : DataW Unit → ByteArray
  | .iface _ (.ptr (.agg [.lit (.string b)])) => ⟨b.toArray⟩
  | _ => ⟨#[]⟩
noncomputable def errBlock (d : DataW Unit) : Obj := .cells #[.string (errText d)] 770
noncomputable def errCell (k : Nat) : List Value := [.iface 768 (.pointer (some ⟨21 + k, 0, none⟩))]
noncomputable def bareWorld (os : Os) : World :=
  let w0 := World.holding Tryz.prog os ⟨#[errBlock Rows.laid_tether_secret_errLine, errBlock Rows.laid_tether_conf_errLine, errBlock Rows.laid_strconv_ErrSyntax, errBlock Rows.laid_strconv_ErrRange], #[], []⟩
  { w0 with heap := layAt (layAt (layAt (layAt (layAt w0.heap 2 [.iface 469 (.agg #[.pointer (some ⟨16, 176, none⟩)])]) 0 (errCell 0)) 1 (errCell 1)) 9 (errCell 2)) 10 (errCell 3) }
noncomputable def great : List String := ["unicode/utf8.first", "unicode/utf8.acceptRanges", "internal/strconv.uint64pow10", "math/bits.deBruijn32tab", "math/bits.deBruijn64tab", "internal/strconv.optimize", "internal/strconv.pow10Tab", "internal/strconv.leftcheats", "tether/octet.digits"]
noncomputable def laidN : List (String × DataW Unit) := Rows.topEchoesRow.laid.filter fun x => x.2.handleName?.isNone
noncomputable def laidG : List (String × DataW Unit) := [("unicode/utf8.first", Rows.laid_unicode_utf8_first), ("unicode/utf8.acceptRanges", Rows.laid_unicode_utf8_acceptRanges), ("internal/strconv.uint64pow10", Rows.laid_internal_strconv_uint64pow10), ("math/bits.deBruijn32tab", Rows.laid_math_bits_deBruijn32tab), ("math/bits.deBruijn64tab", Rows.laid_math_bits_deBruijn64tab), ("internal/strconv.optimize", Rows.laid_internal_strconv_optimize), ("internal/strconv.pow10Tab", Rows.laid_internal_strconv_pow10Tab), ("internal/strconv.leftcheats", Rows.laid_internal_strconv_leftcheats), ("tether/octet.digits", Rows.laid_tether_octet_digits)]
noncomputable def laidE : List (String × DataW Unit) := [("tether/conf.errLine", Rows.laid_tether_conf_errLine), ("strconv.ErrSyntax", Rows.laid_strconv_ErrSyntax), ("strconv.ErrRange", Rows.laid_strconv_ErrRange), ("tether/secret.errLine", Rows.laid_tether_secret_errLine)]
noncomputable def laidWorld (os : Os) : World := (bareWorld os).layVars Tryz.prog laidG
abbrev args0 : Array Value := #[.int .i64 0, .int .i64 0, .int .i64 0, .int .u64 0]
theorem e_g : (laidN.filter fun x => great.contains x.1) = laidG := by kernel_rfl
theorem e_e : (laidN.filter fun x => !great.contains x.1) = laidE := by kernel_rfl
abbrev blocksE : List Nat := [0, 1, 9, 10, 21, 22, 23, 24]
theorem lay_f (os : Os) : (bareWorld os).layFits Tryz.prog laidG blocksE = true := by kernel_rfl
theorem lay_i (os : Os) : (bareWorld os).layIfaces Tryz.prog laidG (laidWorld os) = true := by kernel_rfl
theorem run_a (os : Os) : (DataW.laidRun Tryz.prog (laidWorld os) 8 (laidE.map (·.1))).map (·.1) = some laidE := by kernel_rfl
theorem run_b (os : Os) : (DataW.laidRun Tryz.prog (laidWorld os) 8 (laidE.map (·.1))).map (fun x => nodupB (x.2.map MemPlace.codeOf)) = some true := by kernel_rfl
theorem run_c (os : Os) : (DataW.laidRun Tryz.prog (laidWorld os) 8 (laidE.map (·.1))).map (fun x => laidRowsB Tryz.prog (laidWorld os) x.2) = some true := by kernel_rfl
theorem run_d (os : Os) : (DataW.laidRun Tryz.prog (laidWorld os) 8 (laidE.map (·.1))).map (fun x => x.2.all fun p => blocksE.contains p.block) = some true := by kernel_rfl
theorem lay_met (os : Os) (args : Array Value) : laidMet Tryz.prog laidN ((laidWorld os).forCall (fun _ _ => 0) ⟨#[], args, []⟩).memory := by
  have h : laidMet Tryz.prog laidN (laidWorld os) := laidMet_layVars (w0 := bareWorld os) great blocksE (by rw [e_g]; rfl) (by rw [e_g]; exact lay_f os) (by rw [e_g]; exact lay_i os) (by rw [e_e]; exact LaidIn.of_run blocksE 8 (run_a os) (run_b os) (run_c os) (run_d os))
  exact h.of_heap (by simp [World.memory, World.forCall, Input.heap])
end Go.Proofs.YtoklobcagaolmaaGreatDoor
