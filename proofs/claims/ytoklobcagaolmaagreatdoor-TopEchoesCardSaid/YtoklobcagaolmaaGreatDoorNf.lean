/- THE ROW's TIE to the program's text, what the kernel is asked, part 2: what is laid. No condition. -/
import Derived.Test.YtoklobcagaolmaaGreatDoorNd
import Derived.LaidByTextLater
import Derived.SevenTiedAt
import Derived.LaidSub
import Derived.LaidOnce

namespace Go.Proofs.YtoklobcagaolmaaGreatDoor
set_option maxRecDepth 1000000
/-! ## the row's tie, piece by piece (the given one is asked in one piece): what the kernel is asked -/
noncomputable def codeV : Code := (Tryz.f984.body).getD .skip
noncomputable def storedV : List Nat := (codeV.laysInOrder []).getD []
theorem cl_a : (!codeV.unfollowedBeside Tryz.prog) = true := by kernel_rfl
theorem cl_b : (codeV.tempsApart 0).isSome = true := by kernel_rfl
theorem cl_c : codeV.regionsFit Tryz.prog [] = true := by kernel_rfl
theorem cl_d : ((Tryz.prog.funcs[936]?).any fun fn => fn.body.isNone && !entryCalls fn) = true := by kernel_rfl
theorem cl_e : ((codeV.storedByHandle Tryz.prog).all fun v => Tryz.prog.globalNamed "errors.errorType" == some v) = true := by kernel_rfl
theorem vn_a : ((Tryz.prog.funcs[984]?).bind (·.body)) = some codeV := by kernel_rfl
theorem vn_b : codeV.laysInOrder [] = some storedV := by kernel_rfl
theorem vn_c : (storedV.eraseDups.length == storedV.length) = true := by kernel_rfl
noncomputable def oneV (P : Program) (code : Code) (stored : List Nat) (x : String × DataW Unit) : Bool :=
  (P.globalNamed x.1).any fun v => (stored.contains v == (P.kindBase x.1 != some .zero)) && callsFit code v (P.kindBase x.1) &&
    ((code.storedByHandle P).contains v == (P.kindBase x.1 == some .handle)) && (x.2.handleName?.isSome == (P.kindBase x.1 == some .handle || P.kindBase x.1 == some .funcs)) &&
    (P.kindBase x.1 != some .handle || handlePair x) && (x.2.funcsIn?.isSome == (P.kindBase x.1 == some .funcs)) && mapsFit code v x.2 (P.kindBase x.1)
theorem on0 : oneV Tryz.prog codeV storedV ("tether/conf.errLine", Rows.laid_tether_conf_errLine) = true := by kernel_rfl
theorem on1 : oneV Tryz.prog codeV storedV ("errors.errorType", Rows.laid_errors_errorType) = true := by kernel_rfl
theorem on2 : oneV Tryz.prog codeV storedV ("unicode/utf8.acceptRanges", Rows.laid_unicode_utf8_acceptRanges) = true := by kernel_rfl
theorem on3 : oneV Tryz.prog codeV storedV ("strconv.ErrSyntax", Rows.laid_strconv_ErrSyntax) = true := by kernel_rfl
theorem on4 : oneV Tryz.prog codeV storedV ("strconv.ErrRange", Rows.laid_strconv_ErrRange) = true := by kernel_rfl
theorem on5 : oneV Tryz.prog codeV storedV ("internal/strconv.uint64pow10", Rows.laid_internal_strconv_uint64pow10) = true := by kernel_rfl
theorem on6 : oneV Tryz.prog codeV storedV ("math/bits.deBruijn32tab", Rows.laid_math_bits_deBruijn32tab) = true := by kernel_rfl
theorem on7 : oneV Tryz.prog codeV storedV ("math/bits.deBruijn64tab", Rows.laid_math_bits_deBruijn64tab) = true := by kernel_rfl
theorem on8 : oneV Tryz.prog codeV storedV ("tether/secret.errLine", Rows.laid_tether_secret_errLine) = true := by kernel_rfl
theorem on9 : oneV Tryz.prog codeV storedV ("internal/strconv.optimize", Rows.laid_internal_strconv_optimize) = true := by kernel_rfl
theorem on10 : oneV Tryz.prog codeV storedV ("tether/octet.digits", Rows.laid_tether_octet_digits) = true := by kernel_rfl
noncomputable def leavesG (P : Program) (n fuel M : Nat) (laid : List (String × DataW Unit)) (os : Os) (tape : Tape) (g : FuncId) : Option (List (String × DataW Unit) × List (DataW (List UInt8))) :=
  match runN P n (Machine.entering P (World.unlaid P os) tape g ⟨#[], #[], []⟩) with
  | .ended (.done _) w =>
    (DataW.laidRun P w.memory fuel ((laid.filter fun x => x.2.handleName?.isNone).map (·.1))).bind fun x =>
      if nodupBits M x.2 0 && laidRowsB P w.memory x.2 && (laid.filter fun x => x.2.handleName?.isSome && x.2.funcsIn?.isNone).all (handleAtB P w.memory)
      then (funcsRun P w.memory fuel ((funcsListed laid).map (·.1))).map fun y => (x.1, y) else none
  | _ => none
theorem tie_g (os : Os) (tape : Tape) : leavesG Tryz.prog 400 8 65 laidL os tape 984 = some (laidL.filter fun x => x.2.handleName?.isNone, (funcsListed laidL).map (·.2.funcsOut)) := by kernel_rfl
theorem pn_a0 : Tryz.prog.wordedOn "unicode/utf8.first" (kindTail .pinned) = true := by kernel_rfl
theorem pn_b0 : (Tryz.prog.kindBase "unicode/utf8.first").isNone = true := by kernel_rfl
theorem pn_c0 : ((Tryz.prog.globalNamed "unicode/utf8.first").any fun n => (((Tryz.prog.funcs[984]?).bind (·.body)).bind (·.laysInOrder [])).any fun stored => !stored.contains n) = true := by kernel_rfl
theorem own_datum0 : Pinned.datum "unicode/utf8.first" = some Rows.laid_unicode_utf8_first := by kernel_rfl
theorem pn_a1 : Tryz.prog.wordedOn "internal/strconv.pow10Tab" (kindTail .pinned) = true := by kernel_rfl
theorem pn_b1 : (Tryz.prog.kindBase "internal/strconv.pow10Tab").isNone = true := by kernel_rfl
theorem pn_c1 : ((Tryz.prog.globalNamed "internal/strconv.pow10Tab").any fun n => (((Tryz.prog.funcs[984]?).bind (·.body)).bind (·.laysInOrder [])).any fun stored => !stored.contains n) = true := by kernel_rfl
theorem own_datum1 : Pinned.datum "internal/strconv.pow10Tab" = some Rows.laid_internal_strconv_pow10Tab := by kernel_rfl
theorem pn_a2 : Tryz.prog.wordedOn "internal/strconv.leftcheats" (kindTail .pinned) = true := by kernel_rfl
theorem pn_b2 : (Tryz.prog.kindBase "internal/strconv.leftcheats").isNone = true := by kernel_rfl
theorem pn_c2 : ((Tryz.prog.globalNamed "internal/strconv.leftcheats").any fun n => (((Tryz.prog.funcs[984]?).bind (·.body)).bind (·.laysInOrder [])).any fun stored => !stored.contains n) = true := by kernel_rfl
theorem own_datum2 : Pinned.datum "internal/strconv.leftcheats" = some Rows.laid_internal_strconv_leftcheats := by kernel_rfl
theorem own_unsafe : Tryz.prog.headLifts.contains "ownunsafe" = false := by kernel_rfl
theorem own_funcs : Tryz.prog.funcsFit Rows.topEchoesRow.laid = true := by kernel_rfl
end Go.Proofs.YtoklobcagaolmaaGreatDoor
