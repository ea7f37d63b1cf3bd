/- THE ROW's TIE to the program's text, piece by piece. No condition. -/
import Derived.Test.YtekdmgmdhhkaoaaGreatDoorFc
import Derived.LaidByTextLater
import Derived.SevenTiedAt
import Derived.LaidSub
import Derived.LaidOnce

namespace Go.Proofs.YtekdmgmdhhkaoaaGreatDoor
set_option maxRecDepth 1000000
/-! ## the row's tie, piece by piece (the given one is asked in one piece) -/
noncomputable def cvB (i : Nat) : Bool := (Tryz.prog.funcs[i]?).any fun f => f.name == "gosem.cut.vars"
noncomputable def cvC (i : Nat) : Bool := !(cvB i) || i == 806
theorem cv0 : ((List.range 50).all fun j => cvC (0 + j)) = true := by kernel_rfl
theorem cv1 : ((List.range 50).all fun j => cvC (50 + j)) = true := by kernel_rfl
theorem cv2 : ((List.range 50).all fun j => cvC (100 + j)) = true := by kernel_rfl
theorem cv3 : ((List.range 50).all fun j => cvC (150 + j)) = true := by kernel_rfl
theorem cv4 : ((List.range 50).all fun j => cvC (200 + j)) = true := by kernel_rfl
theorem cv5 : ((List.range 50).all fun j => cvC (250 + j)) = true := by kernel_rfl
theorem cv6 : ((List.range 50).all fun j => cvC (300 + j)) = true := by kernel_rfl
theorem cv7 : ((List.range 50).all fun j => cvC (350 + j)) = true := by kernel_rfl
theorem cv8 : ((List.range 50).all fun j => cvC (400 + j)) = true := by kernel_rfl
theorem cv9 : ((List.range 50).all fun j => cvC (450 + j)) = true := by kernel_rfl
theorem cv10 : ((List.range 50).all fun j => cvC (500 + j)) = true := by kernel_rfl
theorem cv11 : ((List.range 50).all fun j => cvC (550 + j)) = true := by kernel_rfl
theorem cv12 : ((List.range 50).all fun j => cvC (600 + j)) = true := by kernel_rfl
theorem cv13 : ((List.range 50).all fun j => cvC (650 + j)) = true := by kernel_rfl
theorem cv14 : ((List.range 50).all fun j => cvC (700 + j)) = true := by kernel_rfl
theorem cv15 : ((List.range 50).all fun j => cvC (750 + j)) = true := by kernel_rfl
theorem cv16 : ((List.range 7).all fun j => cvC (800 + j)) = true := by kernel_rfl
theorem cv_all : ∀ i, i < 807 → cvC i = true := by
  intro i hi
  have hk : i / 50 = 0 ∨ i / 50 = 1 ∨ i / 50 = 2 ∨ i / 50 = 3 ∨ i / 50 = 4 ∨ i / 50 = 5 ∨ i / 50 = 6 ∨ i / 50 = 7 ∨ i / 50 = 8 ∨ i / 50 = 9 ∨ i / 50 = 10 ∨ i / 50 = 11 ∨ i / 50 = 12 ∨ i / 50 = 13 ∨ i / 50 = 14 ∨ i / 50 = 15 ∨ i / 50 = 16 := by omega
  rcases hk with h | h | h | h | h | h | h | h | h | h | h | h | h | h | h | h | h
  · have := List.all_eq_true.1 cv0 (i - 0) (List.mem_range.2 (by omega))
    rwa [show 0 + (i - 0) = i by omega] at this
  · have := List.all_eq_true.1 cv1 (i - 50) (List.mem_range.2 (by omega))
    rwa [show 50 + (i - 50) = i by omega] at this
  · have := List.all_eq_true.1 cv2 (i - 100) (List.mem_range.2 (by omega))
    rwa [show 100 + (i - 100) = i by omega] at this
  · have := List.all_eq_true.1 cv3 (i - 150) (List.mem_range.2 (by omega))
    rwa [show 150 + (i - 150) = i by omega] at this
  · have := List.all_eq_true.1 cv4 (i - 200) (List.mem_range.2 (by omega))
    rwa [show 200 + (i - 200) = i by omega] at this
  · have := List.all_eq_true.1 cv5 (i - 250) (List.mem_range.2 (by omega))
    rwa [show 250 + (i - 250) = i by omega] at this
  · have := List.all_eq_true.1 cv6 (i - 300) (List.mem_range.2 (by omega))
    rwa [show 300 + (i - 300) = i by omega] at this
  · have := List.all_eq_true.1 cv7 (i - 350) (List.mem_range.2 (by omega))
    rwa [show 350 + (i - 350) = i by omega] at this
  · have := List.all_eq_true.1 cv8 (i - 400) (List.mem_range.2 (by omega))
    rwa [show 400 + (i - 400) = i by omega] at this
  · have := List.all_eq_true.1 cv9 (i - 450) (List.mem_range.2 (by omega))
    rwa [show 450 + (i - 450) = i by omega] at this
  · have := List.all_eq_true.1 cv10 (i - 500) (List.mem_range.2 (by omega))
    rwa [show 500 + (i - 500) = i by omega] at this
  · have := List.all_eq_true.1 cv11 (i - 550) (List.mem_range.2 (by omega))
    rwa [show 550 + (i - 550) = i by omega] at this
  · have := List.all_eq_true.1 cv12 (i - 600) (List.mem_range.2 (by omega))
    rwa [show 600 + (i - 600) = i by omega] at this
  · have := List.all_eq_true.1 cv13 (i - 650) (List.mem_range.2 (by omega))
    rwa [show 650 + (i - 650) = i by omega] at this
  · have := List.all_eq_true.1 cv14 (i - 700) (List.mem_range.2 (by omega))
    rwa [show 700 + (i - 700) = i by omega] at this
  · have := List.all_eq_true.1 cv15 (i - 750) (List.mem_range.2 (by omega))
    rwa [show 750 + (i - 750) = i by omega] at this
  · have := List.all_eq_true.1 cv16 (i - 800) (List.mem_range.2 (by omega))
    rwa [show 800 + (i - 800) = i by omega] at this
theorem cv_one : cvB 806 = true := by kernel_rfl
theorem varsNumber : Tryz.prog.funcNamed "gosem.cut.vars" = some 806 := by
  have h : (List.range Tryz.prog.funcs.size).filter cvB = [806] := by
    rw [funcs_size]
    refine filter_one cv_one 807 (by omega) (fun i hi hp => ?_)
    have := cv_all i hi
    unfold cvC at this
    rw [hp] at this
    simpa using this
  exact funcNamed_of h
theorem varsId_eq : varsId Tryz.prog = 806 := by
  unfold varsId
  rw [varsNumber]
  rfl
noncomputable def laidL : List (String × DataW Unit) := [("math/bits.deBruijn32tab", Rows.laid_math_bits_deBruijn32tab), ("math/bits.deBruijn64tab", Rows.laid_math_bits_deBruijn64tab), ("internal/strconv.uint64pow10", Rows.laid_internal_strconv_uint64pow10), ("unicode/utf8.acceptRanges", Rows.laid_unicode_utf8_acceptRanges), ("errors.errorType", Rows.laid_errors_errorType), ("strconv.ErrRange", Rows.laid_strconv_ErrRange), ("strconv.ErrSyntax", Rows.laid_strconv_ErrSyntax), ("tether/conf.errLine", Rows.laid_tether_conf_errLine), ("tether/secret.errLine", Rows.laid_tether_secret_errLine)]
noncomputable def laidK : List LaidKind := [.data, .data, .data, .data, .handle, .sentinel, .sentinel, .sentinel, .sentinel]
theorem tie_a : Tryz.prog.worded (varsWordLater true) = true := by kernel_rfl
theorem tie_b : Tryz.prog.worded (varsWordLater !true) = false := by kernel_rfl
theorem tie_c : Tryz.prog.worded rootWordLater = true := by kernel_rfl
theorem tie_d : laidL.map (fun x => Tryz.prog.kindOfLater x.1) = laidK.map some := by kernel_rfl
theorem tie_e : (Tryz.prog.funcNamed "gosem.cut.vars").isSome = true := by rw [varsNumber]; rfl
noncomputable def elB (i : Nat) : Bool := (Tryz.prog.funcs[i]?).any fun f => f.name == "(internal/reflectlite.rtype).Elem"
noncomputable def elC (i : Nat) : Bool := !(elB i) || i == 748
theorem el0 : ((List.range 50).all fun j => elC (0 + j)) = true := by kernel_rfl
theorem el1 : ((List.range 50).all fun j => elC (50 + j)) = true := by kernel_rfl
theorem el2 : ((List.range 50).all fun j => elC (100 + j)) = true := by kernel_rfl
theorem el3 : ((List.range 50).all fun j => elC (150 + j)) = true := by kernel_rfl
theorem el4 : ((List.range 50).all fun j => elC (200 + j)) = true := by kernel_rfl
theorem el5 : ((List.range 50).all fun j => elC (250 + j)) = true := by kernel_rfl
theorem el6 : ((List.range 50).all fun j => elC (300 + j)) = true := by kernel_rfl
theorem el7 : ((List.range 50).all fun j => elC (350 + j)) = true := by kernel_rfl
theorem el8 : ((List.range 50).all fun j => elC (400 + j)) = true := by kernel_rfl
theorem el9 : ((List.range 50).all fun j => elC (450 + j)) = true := by kernel_rfl
theorem el10 : ((List.range 50).all fun j => elC (500 + j)) = true := by kernel_rfl
theorem el11 : ((List.range 50).all fun j => elC (550 + j)) = true := by kernel_rfl
theorem el12 : ((List.range 50).all fun j => elC (600 + j)) = true := by kernel_rfl
theorem el13 : ((List.range 50).all fun j => elC (650 + j)) = true := by kernel_rfl
theorem el14 : ((List.range 50).all fun j => elC (700 + j)) = true := by kernel_rfl
theorem el15 : ((List.range 50).all fun j => elC (750 + j)) = true := by kernel_rfl
theorem el16 : ((List.range 7).all fun j => elC (800 + j)) = true := by kernel_rfl
theorem el_all : ∀ i, i < 807 → elC i = true := by
  intro i hi
  have hk : i / 50 = 0 ∨ i / 50 = 1 ∨ i / 50 = 2 ∨ i / 50 = 3 ∨ i / 50 = 4 ∨ i / 50 = 5 ∨ i / 50 = 6 ∨ i / 50 = 7 ∨ i / 50 = 8 ∨ i / 50 = 9 ∨ i / 50 = 10 ∨ i / 50 = 11 ∨ i / 50 = 12 ∨ i / 50 = 13 ∨ i / 50 = 14 ∨ i / 50 = 15 ∨ i / 50 = 16 := by omega
  rcases hk with h | h | h | h | h | h | h | h | h | h | h | h | h | h | h | h | h
  · have := List.all_eq_true.1 el0 (i - 0) (List.mem_range.2 (by omega))
    rwa [show 0 + (i - 0) = i by omega] at this
  · have := List.all_eq_true.1 el1 (i - 50) (List.mem_range.2 (by omega))
    rwa [show 50 + (i - 50) = i by omega] at this
  · have := List.all_eq_true.1 el2 (i - 100) (List.mem_range.2 (by omega))
    rwa [show 100 + (i - 100) = i by omega] at this
  · have := List.all_eq_true.1 el3 (i - 150) (List.mem_range.2 (by omega))
    rwa [show 150 + (i - 150) = i by omega] at this
  · have := List.all_eq_true.1 el4 (i - 200) (List.mem_range.2 (by omega))
    rwa [show 200 + (i - 200) = i by omega] at this
  · have := List.all_eq_true.1 el5 (i - 250) (List.mem_range.2 (by omega))
    rwa [show 250 + (i - 250) = i by omega] at this
  · have := List.all_eq_true.1 el6 (i - 300) (List.mem_range.2 (by omega))
    rwa [show 300 + (i - 300) = i by omega] at this
  · have := List.all_eq_true.1 el7 (i - 350) (List.mem_range.2 (by omega))
    rwa [show 350 + (i - 350) = i by omega] at this
  · have := List.all_eq_true.1 el8 (i - 400) (List.mem_range.2 (by omega))
    rwa [show 400 + (i - 400) = i by omega] at this
  · have := List.all_eq_true.1 el9 (i - 450) (List.mem_range.2 (by omega))
    rwa [show 450 + (i - 450) = i by omega] at this
  · have := List.all_eq_true.1 el10 (i - 500) (List.mem_range.2 (by omega))
    rwa [show 500 + (i - 500) = i by omega] at this
  · have := List.all_eq_true.1 el11 (i - 550) (List.mem_range.2 (by omega))
    rwa [show 550 + (i - 550) = i by omega] at this
  · have := List.all_eq_true.1 el12 (i - 600) (List.mem_range.2 (by omega))
    rwa [show 600 + (i - 600) = i by omega] at this
  · have := List.all_eq_true.1 el13 (i - 650) (List.mem_range.2 (by omega))
    rwa [show 650 + (i - 650) = i by omega] at this
  · have := List.all_eq_true.1 el14 (i - 700) (List.mem_range.2 (by omega))
    rwa [show 700 + (i - 700) = i by omega] at this
  · have := List.all_eq_true.1 el15 (i - 750) (List.mem_range.2 (by omega))
    rwa [show 750 + (i - 750) = i by omega] at this
  · have := List.all_eq_true.1 el16 (i - 800) (List.mem_range.2 (by omega))
    rwa [show 800 + (i - 800) = i by omega] at this
theorem el_one : elB 748 = true := by kernel_rfl
theorem elemNumber : Tryz.prog.funcNamed "(internal/reflectlite.rtype).Elem" = some 748 := by
  have h : (List.range Tryz.prog.funcs.size).filter elB = [748] := by
    rw [funcs_size]
    refine filter_one el_one 807 (by omega) (fun i hi hp => ?_)
    have := el_all i hi
    unfold elC at this
    rw [hp] at this
    simpa using this
  exact funcNamed_of h
noncomputable def codeV : Code := (Tryz.f806.body).getD .skip
noncomputable def storedV : List Nat := (codeV.laysInOrder []).getD []
theorem cl_a : (!codeV.unfollowedBeside Tryz.prog) = true := by kernel_rfl
theorem cl_b : (codeV.tempsApart 0).isSome = true := by kernel_rfl
theorem cl_c : codeV.regionsFit Tryz.prog [] = true := by kernel_rfl
theorem cl_d : ((Tryz.prog.funcs[748]?).any fun fn => fn.body.isNone && !entryCalls fn) = true := by kernel_rfl
theorem cl_e : ((codeV.storedByHandle Tryz.prog).all fun v => Tryz.prog.globalNamed "errors.errorType" == some v) = true := by kernel_rfl
theorem alone_of {P : Program} {g : FuncId} {code : Code} {k : FuncId} (h1 : (!code.unfollowedBeside P) = true) (h2 : (code.tempsApart 0).isSome = true) (h3 : code.regionsFit P [] = true)
    (h4 : P.funcNamed "(internal/reflectlite.rtype).Elem" = some k) (h5 : ((P.funcs[k]?).any fun fn => fn.body.isNone && !entryCalls fn) = true)
    (h6 : ((code.storedByHandle P).all fun v => P.globalNamed "errors.errorType" == some v) = true) : P.callsLaidAlone g code = true := by
  unfold Program.callsLaidAlone
  rw [h1, h2, h3, h4, Option.any_some, h5, h6, Bool.or_true]
  rfl
theorem cl_ok : Tryz.prog.callsLaidAlone 806 codeV = true := alone_of cl_a cl_b cl_c elemNumber cl_d cl_e
theorem vn_a : ((Tryz.prog.funcs[806]?).bind (·.body)) = some codeV := by kernel_rfl
theorem vn_b : codeV.laysInOrder [] = some storedV := by kernel_rfl
theorem vn_c : (storedV.eraseDups.length == storedV.length) = true := by kernel_rfl
noncomputable def oneV (P : Program) (code : Code) (stored : List Nat) (x : String × DataW Unit) : Bool :=
  (P.globalNamed x.1).any fun v => (stored.contains v == (P.kindBase x.1 != some .zero)) && callsFit code v (P.kindBase x.1) &&
    ((code.storedByHandle P).contains v == (P.kindBase x.1 == some .handle)) && (x.2.handleName?.isSome == (P.kindBase x.1 == some .handle || P.kindBase x.1 == some .funcs)) &&
    (P.kindBase x.1 != some .handle || handlePair x) && (x.2.funcsIn?.isSome == (P.kindBase x.1 == some .funcs)) && mapsFit code v x.2 (P.kindBase x.1)
theorem vn_of {P : Program} {g : FuncId} {laid : List (String × DataW Unit)} {code : Code} {stored : List Nat} (h1 : ((P.funcs[g]?).bind (·.body)) = some code) (h2 : code.laysInOrder [] = some stored)
    (h3 : (stored.eraseDups.length == stored.length) = true) (h4 : P.callsLaidAlone g code = true) (h5 : (laid.all fun x => oneV P code stored x) = true) : varsNamedLaterB P g laid = true := by
  unfold varsNamedLaterB
  rw [h1]
  simp only [h2]
  rw [h3, h4]
  exact h5
theorem on0 : oneV Tryz.prog codeV storedV ("math/bits.deBruijn32tab", Rows.laid_math_bits_deBruijn32tab) = true := by kernel_rfl
theorem on1 : oneV Tryz.prog codeV storedV ("math/bits.deBruijn64tab", Rows.laid_math_bits_deBruijn64tab) = true := by kernel_rfl
theorem on2 : oneV Tryz.prog codeV storedV ("internal/strconv.uint64pow10", Rows.laid_internal_strconv_uint64pow10) = true := by kernel_rfl
theorem on3 : oneV Tryz.prog codeV storedV ("unicode/utf8.acceptRanges", Rows.laid_unicode_utf8_acceptRanges) = true := by kernel_rfl
theorem on4 : oneV Tryz.prog codeV storedV ("errors.errorType", Rows.laid_errors_errorType) = true := by kernel_rfl
theorem on5 : oneV Tryz.prog codeV storedV ("strconv.ErrRange", Rows.laid_strconv_ErrRange) = true := by kernel_rfl
theorem on6 : oneV Tryz.prog codeV storedV ("strconv.ErrSyntax", Rows.laid_strconv_ErrSyntax) = true := by kernel_rfl
theorem on7 : oneV Tryz.prog codeV storedV ("tether/conf.errLine", Rows.laid_tether_conf_errLine) = true := by kernel_rfl
theorem on8 : oneV Tryz.prog codeV storedV ("tether/secret.errLine", Rows.laid_tether_secret_errLine) = true := by kernel_rfl
theorem vn_d : (laidL.all fun x => oneV Tryz.prog codeV storedV x) = true := by
  unfold laidL
  simp only [List.all_cons, List.all_nil, on0, on1, on2, on3, on4, on5, on6, on7, on8, Bool.and_self]
theorem tie_f : varsNamedLaterB Tryz.prog 806 laidL = true := vn_of vn_a vn_b vn_c cl_ok vn_d
noncomputable def leavesG (P : Program) (n fuel M : Nat) (laid : List (String × DataW Unit)) (os : Os) (tape : Tape) (g : FuncId) : Option (List (String × DataW Unit) × List (DataW (List UInt8))) :=
  match runN P n (Machine.entering P (World.unlaid P os) tape g ⟨#[], #[], []⟩) with
  | .ended (.done _) w =>
    (DataW.laidRun P w.memory fuel ((laid.filter fun x => x.2.handleName?.isNone).map (·.1))).bind fun x =>
      if nodupBits M x.2 0 && laidRowsB P w.memory x.2 && (laid.filter fun x => x.2.handleName?.isSome && x.2.funcsIn?.isNone).all (handleAtB P w.memory)
      then (funcsRun P w.memory fuel ((funcsListed laid).map (·.1))).map fun y => (x.1, y) else none
  | _ => none
theorem leavesG_eq (P : Program) (n fuel M : Nat) (laid : List (String × DataW Unit)) (os : Os) (tape : Tape) : doorLeaves P n fuel M laid os tape = leavesG P n fuel M laid os tape (varsId P) := rfl
theorem tie_g (os : Os) (tape : Tape) : leavesG Tryz.prog 117 8 65 laidL os tape 806 = some (laidL.filter fun x => x.2.handleName?.isNone, (funcsListed laidL).map (·.2.funcsOut)) := by kernel_rfl
theorem tie_h (os : Os) (tape : Tape) : doorLeaves Tryz.prog 117 8 65 laidL os tape = some (laidL.filter fun x => x.2.handleName?.isNone, (funcsListed laidL).map (·.2.funcsOut)) := by
  rw [leavesG_eq, varsId_eq]
  exact tie_g os tape
theorem own_tie : Tryz.prog.laidByTextLater laidL laidK true :=
  Program.laidByTextLater_by_one 117 8 65 tie_a tie_b tie_c tie_d tie_e (by rw [varsId_eq]; exact tie_f) tie_h
theorem own_pin : Tryz.pinned.checked.prog.pinnedFits "unicode/utf8.first" = true := by kernel_rfl
theorem own_datum : Pinned.datum "unicode/utf8.first" = some Rows.laid_unicode_utf8_first := by kernel_rfl
theorem own_unsafe : Tryz.prog.headLifts.contains "ownunsafe" = false := by kernel_rfl
theorem own_funcs : Tryz.prog.funcsFit Rows.topTiresRow.laid = true := by kernel_rfl
theorem own_fits : Tryz.prog.listedFits Rows.topTiresRow.laid = true := by
  unfold Program.listedFits
  rw [own_unsafe, own_funcs]
  rfl
theorem own_row_tie : Rows.topTiresRow.laidByTextAt .later Tryz.pinned [.data, .data, .data, .data, .handle, .sentinel, .sentinel, .sentinel, .sentinel, .pinned] true :=
  OpenClaim.laidByTextAt_pinned (l := laidL) (k := laidK) rfl rfl own_tie rfl rfl rfl rfl (fun y hy _e => by
    simp only [Rows.topTiresRow, List.zip_cons_cons, List.zip_nil_right, List.mem_cons, List.mem_nil_iff, or_false] at hy
    rcases hy with rfl | rfl | rfl | rfl | rfl | rfl | rfl | rfl | rfl | rfl
    · cases _e
    · cases _e
    · cases _e
    · cases _e
    · cases _e
    · cases _e
    · cases _e
    · cases _e
    · cases _e
    · exact ⟨own_pin, own_datum⟩) own_fits
end Go.Proofs.YtekdmgmdhhkaoaaGreatDoor
