/- THE ROW's TIE to the program's text, joined. No condition. -/
import Derived.Test.YtoklobcagaolmaaGreatDoorFc
import Derived.Test.YtoklobcagaolmaaGreatDoorNf
import Derived.LaidByTextLater
import Derived.SevenTiedAt
import Derived.LaidSub
import Derived.LaidOnce

namespace Go.Proofs.YtoklobcagaolmaaGreatDoor
set_option maxRecDepth 1000000
/-! ## the row's tie, piece by piece (the given one is asked in one piece) -/
theorem cv_all : ∀ i, i < 985 → cvC i = true := by
  intro i hi
  have hk : i / 50 = 0 ∨ i / 50 = 1 ∨ i / 50 = 2 ∨ i / 50 = 3 ∨ i / 50 = 4 ∨ i / 50 = 5 ∨ i / 50 = 6 ∨ i / 50 = 7 ∨ i / 50 = 8 ∨ i / 50 = 9 ∨ i / 50 = 10 ∨ i / 50 = 11 ∨ i / 50 = 12 ∨ i / 50 = 13 ∨ i / 50 = 14 ∨ i / 50 = 15 ∨ i / 50 = 16 ∨ i / 50 = 17 ∨ i / 50 = 18 ∨ i / 50 = 19 := by omega
  rcases hk with h | h | h | h | h | h | h | h | h | h | h | h | h | h | h | h | h | h | h | h
  · have := List.all_eq_true.1 cv0 (i - 0) (List.mem_range.2 (by omega))
    rwa [show 0 + (i - 0) = i by omega] at this
  · have := List.all_eq_true.1 cv1 (i - 50) (List.mem_range.2 (by omega))
    rwa [show 50 + (i - 50) = i by omega] at this
  · have := List.all_eq_true.1 cv2 (i - 100) (List.mem_range.2 (by omega))
    rwa [show 100 + (i - 100) = i by omega] at this
  · have := List.all_eq_true.1 cv3 (i - 150) (List.mem_range.2 (by omega))
    rwa [show 150 + (i - 150) = i by omega] at this
  · have := List.all_eq_true.1 cv4 (i - 200) (List.mem_range.2 (by omega))
    rwa [show 200 + (i - 200) = i by omega] at this
  · have := List.all_eq_true.1 cv5 (i - 250) (List.mem_range.2 (by omega))
    rwa [show 250 + (i - 250) = i by omega] at this
  · have := List.all_eq_true.1 cv6 (i - 300) (List.mem_range.2 (by omega))
    rwa [show 300 + (i - 300) = i by omega] at this
  · have := List.all_eq_true.1 cv7 (i - 350) (List.mem_range.2 (by omega))
    rwa [show 350 + (i - 350) = i by omega] at this
  · have := List.all_eq_true.1 cv8 (i - 400) (List.mem_range.2 (by omega))
    rwa [show 400 + (i - 400) = i by omega] at this
  · have := List.all_eq_true.1 cv9 (i - 450) (List.mem_range.2 (by omega))
    rwa [show 450 + (i - 450) = i by omega] at this
  · have := List.all_eq_true.1 cv10 (i - 500) (List.mem_range.2 (by omega))
    rwa [show 500 + (i - 500) = i by omega] at this
  · have := List.all_eq_true.1 cv11 (i - 550) (List.mem_range.2 (by omega))
    rwa [show 550 + (i - 550) = i by omega] at this
  · have := List.all_eq_true.1 cv12 (i - 600) (List.mem_range.2 (by omega))
    rwa [show 600 + (i - 600) = i by omega] at this
  · have := List.all_eq_true.1 cv13 (i - 650) (List.mem_range.2 (by omega))
    rwa [show 650 + (i - 650) = i by omega] at this
  · have := List.all_eq_true.1 cv14 (i - 700) (List.mem_range.2 (by omega))
    rwa [show 700 + (i - 700) = i by omega] at this
  · have := List.all_eq_true.1 cv15 (i - 750) (List.mem_range.2 (by omega))
    rwa [show 750 + (i - 750) = i by omega] at this
  · have := List.all_eq_true.1 cv16 (i - 800) (List.mem_range.2 (by omega))
    rwa [show 800 + (i - 800) = i by omega] at this
  · have := List.all_eq_true.1 cv17 (i - 850) (List.mem_range.2 (by omega))
    rwa [show 850 + (i - 850) = i by omega] at this
  · have := List.all_eq_true.1 cv18 (i - 900) (List.mem_range.2 (by omega))
    rwa [show 900 + (i - 900) = i by omega] at this
  · have := List.all_eq_true.1 cv19 (i - 950) (List.mem_range.2 (by omega))
    rwa [show 950 + (i - 950) = i by omega] at this
theorem varsNumber : Tryz.prog.funcNamed "gosem.cut.vars" = some 984 := by
  have h : (List.range Tryz.prog.funcs.size).filter cvB = [984] := by
    rw [funcs_size]
    refine filter_one cv_one 985 (by omega) (fun i hi hp => ?_)
    have := cv_all i hi
    unfold cvC at this
    rw [hp] at this
    simpa using this
  exact funcNamed_of h
theorem tw_all : ∀ i, i < 985 → twB i = true := by
  intro i hi
  have hk : i / 50 = 0 ∨ i / 50 = 1 ∨ i / 50 = 2 ∨ i / 50 = 3 ∨ i / 50 = 4 ∨ i / 50 = 5 ∨ i / 50 = 6 ∨ i / 50 = 7 ∨ i / 50 = 8 ∨ i / 50 = 9 ∨ i / 50 = 10 ∨ i / 50 = 11 ∨ i / 50 = 12 ∨ i / 50 = 13 ∨ i / 50 = 14 ∨ i / 50 = 15 ∨ i / 50 = 16 ∨ i / 50 = 17 ∨ i / 50 = 18 ∨ i / 50 = 19 := by omega
  rcases hk with h | h | h | h | h | h | h | h | h | h | h | h | h | h | h | h | h | h | h | h
  · have := List.all_eq_true.1 tw0 (i - 0) (List.mem_range.2 (by omega))
    rwa [show 0 + (i - 0) = i by omega] at this
  · have := List.all_eq_true.1 tw1 (i - 50) (List.mem_range.2 (by omega))
    rwa [show 50 + (i - 50) = i by omega] at this
  · have := List.all_eq_true.1 tw2 (i - 100) (List.mem_range.2 (by omega))
    rwa [show 100 + (i - 100) = i by omega] at this
  · have := List.all_eq_true.1 tw3 (i - 150) (List.mem_range.2 (by omega))
    rwa [show 150 + (i - 150) = i by omega] at this
  · have := List.all_eq_true.1 tw4 (i - 200) (List.mem_range.2 (by omega))
    rwa [show 200 + (i - 200) = i by omega] at this
  · have := List.all_eq_true.1 tw5 (i - 250) (List.mem_range.2 (by omega))
    rwa [show 250 + (i - 250) = i by omega] at this
  · have := List.all_eq_true.1 tw6 (i - 300) (List.mem_range.2 (by omega))
    rwa [show 300 + (i - 300) = i by omega] at this
  · have := List.all_eq_true.1 tw7 (i - 350) (List.mem_range.2 (by omega))
    rwa [show 350 + (i - 350) = i by omega] at this
  · have := List.all_eq_true.1 tw8 (i - 400) (List.mem_range.2 (by omega))
    rwa [show 400 + (i - 400) = i by omega] at this
  · have := List.all_eq_true.1 tw9 (i - 450) (List.mem_range.2 (by omega))
    rwa [show 450 + (i - 450) = i by omega] at this
  · have := List.all_eq_true.1 tw10 (i - 500) (List.mem_range.2 (by omega))
    rwa [show 500 + (i - 500) = i by omega] at this
  · have := List.all_eq_true.1 tw11 (i - 550) (List.mem_range.2 (by omega))
    rwa [show 550 + (i - 550) = i by omega] at this
  · have := List.all_eq_true.1 tw12 (i - 600) (List.mem_range.2 (by omega))
    rwa [show 600 + (i - 600) = i by omega] at this
  · have := List.all_eq_true.1 tw13 (i - 650) (List.mem_range.2 (by omega))
    rwa [show 650 + (i - 650) = i by omega] at this
  · have := List.all_eq_true.1 tw14 (i - 700) (List.mem_range.2 (by omega))
    rwa [show 700 + (i - 700) = i by omega] at this
  · have := List.all_eq_true.1 tw15 (i - 750) (List.mem_range.2 (by omega))
    rwa [show 750 + (i - 750) = i by omega] at this
  · have := List.all_eq_true.1 tw16 (i - 800) (List.mem_range.2 (by omega))
    rwa [show 800 + (i - 800) = i by omega] at this
  · have := List.all_eq_true.1 tw17 (i - 850) (List.mem_range.2 (by omega))
    rwa [show 850 + (i - 850) = i by omega] at this
  · have := List.all_eq_true.1 tw18 (i - 900) (List.mem_range.2 (by omega))
    rwa [show 900 + (i - 900) = i by omega] at this
  · have := List.all_eq_true.1 tw19 (i - 950) (List.mem_range.2 (by omega))
    rwa [show 950 + (i - 950) = i by omega] at this
theorem varsId_eq : varsId Tryz.prog = 984 := by
  unfold varsId
  rw [varsNumber]
  rfl
theorem worded_of {P : Program} {word : String} (k : Nat) (h : ((P.funcs[k]?).any fun fn => fn.body.isNone && fn.name == word) = true) : P.worded word = true := by
  unfold Program.worded
  rw [Array.any_eq_true]
  cases hk : P.funcs[k]? with
  | none => rw [hk] at h; cases h
  | some fn =>
    obtain ⟨hlt, e⟩ := Array.getElem?_eq_some_iff.1 hk
    rw [hk] at h
    exact ⟨k, hlt, by rw [e]; exact h⟩
theorem tie_a : Tryz.prog.worded (varsWordLater true) = true := worded_of 969 tie_a0
theorem tie_c : Tryz.prog.worded rootWordLater = true := worded_of 981 tie_c0
theorem tie_b : Tryz.prog.worded (varsWordLater !true) = false := by
  unfold Program.worded
  rw [Array.any_eq_false]
  intro i hi
  have := tw_all i (by rw [← funcs_size]; exact hi)
  unfold twB at this
  rw [Array.getElem?_eq_getElem hi] at this
  have this : (!(Tryz.prog.funcs[i].body.isNone && Tryz.prog.funcs[i].name == varsWordLater !true)) = true := this
  rw [Bool.not_eq_true'] at this
  rw [this]
  decide
theorem tie_e : (Tryz.prog.funcNamed "gosem.cut.vars").isSome = true := by rw [varsNumber]; rfl
theorem el_all : ∀ i, i < 985 → elC i = true := by
  intro i hi
  have hk : i / 50 = 0 ∨ i / 50 = 1 ∨ i / 50 = 2 ∨ i / 50 = 3 ∨ i / 50 = 4 ∨ i / 50 = 5 ∨ i / 50 = 6 ∨ i / 50 = 7 ∨ i / 50 = 8 ∨ i / 50 = 9 ∨ i / 50 = 10 ∨ i / 50 = 11 ∨ i / 50 = 12 ∨ i / 50 = 13 ∨ i / 50 = 14 ∨ i / 50 = 15 ∨ i / 50 = 16 ∨ i / 50 = 17 ∨ i / 50 = 18 ∨ i / 50 = 19 := by omega
  rcases hk with h | h | h | h | h | h | h | h | h | h | h | h | h | h | h | h | h | h | h | h
  · have := List.all_eq_true.1 el0 (i - 0) (List.mem_range.2 (by omega))
    rwa [show 0 + (i - 0) = i by omega] at this
  · have := List.all_eq_true.1 el1 (i - 50) (List.mem_range.2 (by omega))
    rwa [show 50 + (i - 50) = i by omega] at this
  · have := List.all_eq_true.1 el2 (i - 100) (List.mem_range.2 (by omega))
    rwa [show 100 + (i - 100) = i by omega] at this
  · have := List.all_eq_true.1 el3 (i - 150) (List.mem_range.2 (by omega))
    rwa [show 150 + (i - 150) = i by omega] at this
  · have := List.all_eq_true.1 el4 (i - 200) (List.mem_range.2 (by omega))
    rwa [show 200 + (i - 200) = i by omega] at this
  · have := List.all_eq_true.1 el5 (i - 250) (List.mem_range.2 (by omega))
    rwa [show 250 + (i - 250) = i by omega] at this
  · have := List.all_eq_true.1 el6 (i - 300) (List.mem_range.2 (by omega))
    rwa [show 300 + (i - 300) = i by omega] at this
  · have := List.all_eq_true.1 el7 (i - 350) (List.mem_range.2 (by omega))
    rwa [show 350 + (i - 350) = i by omega] at this
  · have := List.all_eq_true.1 el8 (i - 400) (List.mem_range.2 (by omega))
    rwa [show 400 + (i - 400) = i by omega] at this
  · have := List.all_eq_true.1 el9 (i - 450) (List.mem_range.2 (by omega))
    rwa [show 450 + (i - 450) = i by omega] at this
  · have := List.all_eq_true.1 el10 (i - 500) (List.mem_range.2 (by omega))
    rwa [show 500 + (i - 500) = i by omega] at this
  · have := List.all_eq_true.1 el11 (i - 550) (List.mem_range.2 (by omega))
    rwa [show 550 + (i - 550) = i by omega] at this
  · have := List.all_eq_true.1 el12 (i - 600) (List.mem_range.2 (by omega))
    rwa [show 600 + (i - 600) = i by omega] at this
  · have := List.all_eq_true.1 el13 (i - 650) (List.mem_range.2 (by omega))
    rwa [show 650 + (i - 650) = i by omega] at this
  · have := List.all_eq_true.1 el14 (i - 700) (List.mem_range.2 (by omega))
    rwa [show 700 + (i - 700) = i by omega] at this
  · have := List.all_eq_true.1 el15 (i - 750) (List.mem_range.2 (by omega))
    rwa [show 750 + (i - 750) = i by omega] at this
  · have := List.all_eq_true.1 el16 (i - 800) (List.mem_range.2 (by omega))
    rwa [show 800 + (i - 800) = i by omega] at this
  · have := List.all_eq_true.1 el17 (i - 850) (List.mem_range.2 (by omega))
    rwa [show 850 + (i - 850) = i by omega] at this
  · have := List.all_eq_true.1 el18 (i - 900) (List.mem_range.2 (by omega))
    rwa [show 900 + (i - 900) = i by omega] at this
  · have := List.all_eq_true.1 el19 (i - 950) (List.mem_range.2 (by omega))
    rwa [show 950 + (i - 950) = i by omega] at this
theorem elemNumber : Tryz.prog.funcNamed "(internal/reflectlite.rtype).Elem" = some 936 := by
  have h : (List.range Tryz.prog.funcs.size).filter elB = [936] := by
    rw [funcs_size]
    refine filter_one el_one 985 (by omega) (fun i hi hp => ?_)
    have := el_all i hi
    unfold elC at this
    rw [hp] at this
    simpa using this
  exact funcNamed_of h
theorem alone_of {P : Program} {g : FuncId} {code : Code} {k : FuncId} (h1 : (!code.unfollowedBeside P) = true) (h2 : (code.tempsApart 0).isSome = true) (h3 : code.regionsFit P [] = true)
    (h4 : P.funcNamed "(internal/reflectlite.rtype).Elem" = some k) (h5 : ((P.funcs[k]?).any fun fn => fn.body.isNone && !entryCalls fn) = true)
    (h6 : ((code.storedByHandle P).all fun v => P.globalNamed "errors.errorType" == some v) = true) : P.callsLaidAlone g code = true := by
  unfold Program.callsLaidAlone
  rw [h1, h2, h3, h4, Option.any_some, h5, h6, Bool.or_true]
  rfl
theorem cl_ok : Tryz.prog.callsLaidAlone 984 codeV = true := alone_of cl_a cl_b cl_c elemNumber cl_d cl_e
theorem vn_of {P : Program} {g : FuncId} {laid : List (String × DataW Unit)} {code : Code} {stored : List Nat} (h1 : ((P.funcs[g]?).bind (·.body)) = some code) (h2 : code.laysInOrder [] = some stored)
    (h3 : (stored.eraseDups.length == stored.length) = true) (h4 : P.callsLaidAlone g code = true) (h5 : (laid.all fun x => oneV P code stored x) = true) : varsNamedLaterB P g laid = true := by
  unfold varsNamedLaterB
  rw [h1]
  simp only [h2]
  rw [h3, h4]
  exact h5
theorem vn_d : (laidL.all fun x => oneV Tryz.prog codeV storedV x) = true := by
  unfold laidL
  simp only [List.all_cons, List.all_nil, on0, on1, on2, on3, on4, on5, on6, on7, on8, on9, on10, Bool.and_self]
theorem tie_f : varsNamedLaterB Tryz.prog 984 laidL = true := vn_of vn_a vn_b vn_c cl_ok vn_d
theorem leavesG_eq (P : Program) (n fuel M : Nat) (laid : List (String × DataW Unit)) (os : Os) (tape : Tape) : doorLeaves P n fuel M laid os tape = leavesG P n fuel M laid os tape (varsId P) := rfl
theorem tie_h (os : Os) (tape : Tape) : doorLeaves Tryz.prog 400 8 65 laidL os tape = some (laidL.filter fun x => x.2.handleName?.isNone, (funcsListed laidL).map (·.2.funcsOut)) := by
  rw [leavesG_eq, varsId_eq]
  exact tie_g os tape
theorem own_tie : Tryz.prog.laidByTextLater laidL laidK true :=
  Program.laidByTextLater_by_one 400 8 65 tie_a tie_b tie_c tie_d tie_e (by rw [varsId_eq]; exact tie_f) tie_h
end Go.Proofs.YtoklobcagaolmaaGreatDoor

namespace Go.Proofs.YtoklobcagaolmaaGreatDoor
set_option maxRecDepth 1000000
theorem pin_of {P : Program} {v : String} {g : Nat} (h1 : P.wordedOn v (kindTail .pinned) = true) (h2 : (P.kindBase v).isNone = true) (h3 : P.funcNamed "gosem.cut.vars" = some g)
    (h4 : ((P.globalNamed v).any fun n => (((P.funcs[g]?).bind (·.body)).bind (·.laysInOrder [])).any fun stored => !stored.contains n) = true) : P.pinnedFits v = true := by
  unfold Program.pinnedFits
  rw [h1, h2, h3]
  exact h4
theorem own_pin0 : Tryz.prog.pinnedFits "unicode/utf8.first" = true := pin_of pn_a0 pn_b0 varsNumber pn_c0
theorem own_pin1 : Tryz.prog.pinnedFits "internal/strconv.pow10Tab" = true := pin_of pn_a1 pn_b1 varsNumber pn_c1
theorem own_pin2 : Tryz.prog.pinnedFits "internal/strconv.leftcheats" = true := pin_of pn_a2 pn_b2 varsNumber pn_c2
theorem own_fits : Tryz.prog.listedFits Rows.topEchoesRow.laid = true := by
  unfold Program.listedFits
  rw [own_unsafe, own_funcs]
  rfl
theorem own_row_tie : Rows.topEchoesRow.laidByTextAt .later Tryz.pinned [.sentinel, .handle, .pinned, .data, .sentinel, .sentinel, .data, .data, .data, .sentinel, .data, .pinned, .pinned, .data] true :=
  OpenClaim.laidByTextAt_pinned (l := laidL) (k := laidK) rfl rfl own_tie rfl rfl rfl rfl (fun y hy _e => by
    simp only [Rows.topEchoesRow, List.zip_cons_cons, List.zip_nil_right, List.mem_cons, List.mem_nil_iff, or_false] at hy
    rcases hy with rfl | rfl | rfl | rfl | rfl | rfl | rfl | rfl | rfl | rfl | rfl | rfl | rfl | rfl
    · cases _e
    · cases _e
    · exact ⟨own_pin0, own_datum0⟩
    · cases _e
    · cases _e
    · cases _e
    · cases _e
    · cases _e
    · cases _e
    · cases _e
    · cases _e
    · exact ⟨own_pin1, own_datum1⟩
    · exact ⟨own_pin2, own_datum2⟩
    · cases _e) own_fits
end Go.Proofs.YtoklobcagaolmaaGreatDoor
