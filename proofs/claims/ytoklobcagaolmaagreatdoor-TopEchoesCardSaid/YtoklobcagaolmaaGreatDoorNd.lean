/- THE ROW's TIE to the program's text, what the kernel is asked, part 1: names. No condition. -/
import Derived.Test.YtoklobcagaolmaaGreatDoorRows
import Derived.LaidByTextLater
import Derived.SevenTiedAt
import Derived.LaidSub
import Derived.LaidOnce

namespace Go.Proofs.YtoklobcagaolmaaGreatDoor
set_option maxRecDepth 1000000
/-! ## the row's tie, piece by piece (the given one is asked in one piece): what the kernel is asked -/
noncomputable def cvB (i : Nat) : Bool := (Tryz.prog.funcs[i]?).any fun f => f.name == "gosem.cut.vars"
noncomputable def cvC (i : Nat) : Bool := !(cvB i) || i == 984
theorem cv0 : ((List.range 50).all fun j => cvC (0 + j)) = true := by kernel_rfl
theorem cv1 : ((List.range 50).all fun j => cvC (50 + j)) = true := by kernel_rfl
theorem cv2 : ((List.range 50).all fun j => cvC (100 + j)) = true := by kernel_rfl
theorem cv3 : ((List.range 50).all fun j => cvC (150 + j)) = true := by kernel_rfl
theorem cv4 : ((List.range 50).all fun j => cvC (200 + j)) = true := by kernel_rfl
theorem cv5 : ((List.range 50).all fun j => cvC (250 + j)) = true := by kernel_rfl
theorem cv6 : ((List.range 50).all fun j => cvC (300 + j)) = true := by kernel_rfl
theorem cv7 : ((List.range 50).all fun j => cvC (350 + j)) = true := by kernel_rfl
theorem cv8 : ((List.range 50).all fun j => cvC (400 + j)) = true := by kernel_rfl
theorem cv9 : ((List.range 50).all fun j => cvC (450 + j)) = true := by kernel_rfl
theorem cv10 : ((List.range 50).all fun j => cvC (500 + j)) = true := by kernel_rfl
theorem cv11 : ((List.range 50).all fun j => cvC (550 + j)) = true := by kernel_rfl
theorem cv12 : ((List.range 50).all fun j => cvC (600 + j)) = true := by kernel_rfl
theorem cv13 : ((List.range 50).all fun j => cvC (650 + j)) = true := by kernel_rfl
theorem cv14 : ((List.range 50).all fun j => cvC (700 + j)) = true := by kernel_rfl
theorem cv15 : ((List.range 50).all fun j => cvC (750 + j)) = true := by kernel_rfl
theorem cv16 : ((List.range 50).all fun j => cvC (800 + j)) = true := by kernel_rfl
theorem cv17 : ((List.range 50).all fun j => cvC (850 + j)) = true := by kernel_rfl
theorem cv18 : ((List.range 50).all fun j => cvC (900 + j)) = true := by kernel_rfl
theorem cv19 : ((List.range 35).all fun j => cvC (950 + j)) = true := by kernel_rfl
theorem cv_one : cvB 984 = true := by kernel_rfl
noncomputable def twB (i : Nat) : Bool := !((Tryz.prog.funcs[i]?).any fun fn => fn.body.isNone && fn.name == varsWordLater !true)
theorem tw0 : ((List.range 50).all fun j => twB (0 + j)) = true := by kernel_rfl
theorem tw1 : ((List.range 50).all fun j => twB (50 + j)) = true := by kernel_rfl
theorem tw2 : ((List.range 50).all fun j => twB (100 + j)) = true := by kernel_rfl
theorem tw3 : ((List.range 50).all fun j => twB (150 + j)) = true := by kernel_rfl
theorem tw4 : ((List.range 50).all fun j => twB (200 + j)) = true := by kernel_rfl
theorem tw5 : ((List.range 50).all fun j => twB (250 + j)) = true := by kernel_rfl
theorem tw6 : ((List.range 50).all fun j => twB (300 + j)) = true := by kernel_rfl
theorem tw7 : ((List.range 50).all fun j => twB (350 + j)) = true := by kernel_rfl
theorem tw8 : ((List.range 50).all fun j => twB (400 + j)) = true := by kernel_rfl
theorem tw9 : ((List.range 50).all fun j => twB (450 + j)) = true := by kernel_rfl
theorem tw10 : ((List.range 50).all fun j => twB (500 + j)) = true := by kernel_rfl
theorem tw11 : ((List.range 50).all fun j => twB (550 + j)) = true := by kernel_rfl
theorem tw12 : ((List.range 50).all fun j => twB (600 + j)) = true := by kernel_rfl
theorem tw13 : ((List.range 50).all fun j => twB (650 + j)) = true := by kernel_rfl
theorem tw14 : ((List.range 50).all fun j => twB (700 + j)) = true := by kernel_rfl
theorem tw15 : ((List.range 50).all fun j => twB (750 + j)) = true := by kernel_rfl
theorem tw16 : ((List.range 50).all fun j => twB (800 + j)) = true := by kernel_rfl
theorem tw17 : ((List.range 50).all fun j => twB (850 + j)) = true := by kernel_rfl
theorem tw18 : ((List.range 50).all fun j => twB (900 + j)) = true := by kernel_rfl
theorem tw19 : ((List.range 35).all fun j => twB (950 + j)) = true := by kernel_rfl
noncomputable def laidL : List (String × DataW Unit) := [("tether/conf.errLine", Rows.laid_tether_conf_errLine), ("errors.errorType", Rows.laid_errors_errorType), ("unicode/utf8.acceptRanges", Rows.laid_unicode_utf8_acceptRanges), ("strconv.ErrSyntax", Rows.laid_strconv_ErrSyntax), ("strconv.ErrRange", Rows.laid_strconv_ErrRange), ("internal/strconv.uint64pow10", Rows.laid_internal_strconv_uint64pow10), ("math/bits.deBruijn32tab", Rows.laid_math_bits_deBruijn32tab), ("math/bits.deBruijn64tab", Rows.laid_math_bits_deBruijn64tab), ("tether/secret.errLine", Rows.laid_tether_secret_errLine), ("internal/strconv.optimize", Rows.laid_internal_strconv_optimize), ("tether/octet.digits", Rows.laid_tether_octet_digits)]
noncomputable def laidK : List LaidKind := [.sentinel, .handle, .data, .sentinel, .sentinel, .data, .data, .data, .sentinel, .data, .data]
theorem tie_a0 : ((Tryz.prog.funcs[969]?).any fun fn => fn.body.isNone && fn.name == varsWordLater true) = true := by kernel_rfl
theorem tie_c0 : ((Tryz.prog.funcs[981]?).any fun fn => fn.body.isNone && fn.name == rootWordLater) = true := by kernel_rfl
theorem tie_d : laidL.map (fun x => Tryz.prog.kindOfLater x.1) = laidK.map some := by kernel_rfl
noncomputable def elB (i : Nat) : Bool := (Tryz.prog.funcs[i]?).any fun f => f.name == "(internal/reflectlite.rtype).Elem"
noncomputable def elC (i : Nat) : Bool := !(elB i) || i == 936
theorem el0 : ((List.range 50).all fun j => elC (0 + j)) = true := by kernel_rfl
theorem el1 : ((List.range 50).all fun j => elC (50 + j)) = true := by kernel_rfl
theorem el2 : ((List.range 50).all fun j => elC (100 + j)) = true := by kernel_rfl
theorem el3 : ((List.range 50).all fun j => elC (150 + j)) = true := by kernel_rfl
theorem el4 : ((List.range 50).all fun j => elC (200 + j)) = true := by kernel_rfl
theorem el5 : ((List.range 50).all fun j => elC (250 + j)) = true := by kernel_rfl
theorem el6 : ((List.range 50).all fun j => elC (300 + j)) = true := by kernel_rfl
theorem el7 : ((List.range 50).all fun j => elC (350 + j)) = true := by kernel_rfl
theorem el8 : ((List.range 50).all fun j => elC (400 + j)) = true := by kernel_rfl
theorem el9 : ((List.range 50).all fun j => elC (450 + j)) = true := by kernel_rfl
theorem el10 : ((List.range 50).all fun j => elC (500 + j)) = true := by kernel_rfl
theorem el11 : ((List.range 50).all fun j => elC (550 + j)) = true := by kernel_rfl
theorem el12 : ((List.range 50).all fun j => elC (600 + j)) = true := by kernel_rfl
theorem el13 : ((List.range 50).all fun j => elC (650 + j)) = true := by kernel_rfl
theorem el14 : ((List.range 50).all fun j => elC (700 + j)) = true := by kernel_rfl
theorem el15 : ((List.range 50).all fun j => elC (750 + j)) = true := by kernel_rfl
theorem el16 : ((List.range 50).all fun j => elC (800 + j)) = true := by kernel_rfl
theorem el17 : ((List.range 50).all fun j => elC (850 + j)) = true := by kernel_rfl
theorem el18 : ((List.range 50).all fun j => elC (900 + j)) = true := by kernel_rfl
theorem el19 : ((List.range 35).all fun j => elC (950 + j)) = true := by kernel_rfl
theorem el_one : elB 936 = true := by kernel_rfl
end Go.Proofs.YtoklobcagaolmaaGreatDoor
