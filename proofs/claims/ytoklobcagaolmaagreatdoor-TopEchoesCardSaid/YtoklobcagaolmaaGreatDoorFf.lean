/- THE PROGRAM may be entered, piece by piece. No condition. -/
import Derived.JoinedOf
import Derived.KernelRfl
import Derived.Test.YtoklobcagaolmaaGreatDoorRows

namespace Go.Proofs.YtoklobcagaolmaaGreatDoor
set_option maxRecDepth 1000000
noncomputable def lzB (i : Nat) : Bool := !((Tryz.prog.funcs[i]?).any fun fn => fn.body.isNone && (fn.name == "runtime.SetFinalizer" || fn.name == "runtime.AddCleanup" || fn.origin == "runtime.AddCleanup"))
theorem lz0 : ((List.range 50).all fun j => lzB (0 + j)) = true := by kernel_rfl
theorem lz1 : ((List.range 50).all fun j => lzB (50 + j)) = true := by kernel_rfl
theorem lz2 : ((List.range 50).all fun j => lzB (100 + j)) = true := by kernel_rfl
theorem lz3 : ((List.range 50).all fun j => lzB (150 + j)) = true := by kernel_rfl
theorem lz4 : ((List.range 50).all fun j => lzB (200 + j)) = true := by kernel_rfl
theorem lz5 : ((List.range 50).all fun j => lzB (250 + j)) = true := by kernel_rfl
theorem lz6 : ((List.range 50).all fun j => lzB (300 + j)) = true := by kernel_rfl
theorem lz7 : ((List.range 50).all fun j => lzB (350 + j)) = true := by kernel_rfl
theorem lz8 : ((List.range 50).all fun j => lzB (400 + j)) = true := by kernel_rfl
theorem lz9 : ((List.range 50).all fun j => lzB (450 + j)) = true := by kernel_rfl
theorem lz10 : ((List.range 50).all fun j => lzB (500 + j)) = true := by kernel_rfl
theorem lz11 : ((List.range 50).all fun j => lzB (550 + j)) = true := by kernel_rfl
theorem lz12 : ((List.range 50).all fun j => lzB (600 + j)) = true := by kernel_rfl
theorem lz13 : ((List.range 50).all fun j => lzB (650 + j)) = true := by kernel_rfl
theorem lz14 : ((List.range 50).all fun j => lzB (700 + j)) = true := by kernel_rfl
theorem lz15 : ((List.range 50).all fun j => lzB (750 + j)) = true := by kernel_rfl
theorem lz16 : ((List.range 50).all fun j => lzB (800 + j)) = true := by kernel_rfl
theorem lz17 : ((List.range 50).all fun j => lzB (850 + j)) = true := by kernel_rfl
theorem lz18 : ((List.range 50).all fun j => lzB (900 + j)) = true := by kernel_rfl
theorem lz19 : ((List.range 35).all fun j => lzB (950 + j)) = true := by kernel_rfl
theorem lz_all : ∀ i, i < 985 → lzB i = true := by
  intro i hi
  have hk : i / 50 = 0 ∨ i / 50 = 1 ∨ i / 50 = 2 ∨ i / 50 = 3 ∨ i / 50 = 4 ∨ i / 50 = 5 ∨ i / 50 = 6 ∨ i / 50 = 7 ∨ i / 50 = 8 ∨ i / 50 = 9 ∨ i / 50 = 10 ∨ i / 50 = 11 ∨ i / 50 = 12 ∨ i / 50 = 13 ∨ i / 50 = 14 ∨ i / 50 = 15 ∨ i / 50 = 16 ∨ i / 50 = 17 ∨ i / 50 = 18 ∨ i / 50 = 19 := by omega
  rcases hk with h | h | h | h | h | h | h | h | h | h | h | h | h | h | h | h | h | h | h | h
  · have := List.all_eq_true.1 lz0 (i - 0) (List.mem_range.2 (by omega))
    rwa [show 0 + (i - 0) = i by omega] at this
  · have := List.all_eq_true.1 lz1 (i - 50) (List.mem_range.2 (by omega))
    rwa [show 50 + (i - 50) = i by omega] at this
  · have := List.all_eq_true.1 lz2 (i - 100) (List.mem_range.2 (by omega))
    rwa [show 100 + (i - 100) = i by omega] at this
  · have := List.all_eq_true.1 lz3 (i - 150) (List.mem_range.2 (by omega))
    rwa [show 150 + (i - 150) = i by omega] at this
  · have := List.all_eq_true.1 lz4 (i - 200) (List.mem_range.2 (by omega))
    rwa [show 200 + (i - 200) = i by omega] at this
  · have := List.all_eq_true.1 lz5 (i - 250) (List.mem_range.2 (by omega))
    rwa [show 250 + (i - 250) = i by omega] at this
  · have := List.all_eq_true.1 lz6 (i - 300) (List.mem_range.2 (by omega))
    rwa [show 300 + (i - 300) = i by omega] at this
  · have := List.all_eq_true.1 lz7 (i - 350) (List.mem_range.2 (by omega))
    rwa [show 350 + (i - 350) = i by omega] at this
  · have := List.all_eq_true.1 lz8 (i - 400) (List.mem_range.2 (by omega))
    rwa [show 400 + (i - 400) = i by omega] at this
  · have := List.all_eq_true.1 lz9 (i - 450) (List.mem_range.2 (by omega))
    rwa [show 450 + (i - 450) = i by omega] at this
  · have := List.all_eq_true.1 lz10 (i - 500) (List.mem_range.2 (by omega))
    rwa [show 500 + (i - 500) = i by omega] at this
  · have := List.all_eq_true.1 lz11 (i - 550) (List.mem_range.2 (by omega))
    rwa [show 550 + (i - 550) = i by omega] at this
  · have := List.all_eq_true.1 lz12 (i - 600) (List.mem_range.2 (by omega))
    rwa [show 600 + (i - 600) = i by omega] at this
  · have := List.all_eq_true.1 lz13 (i - 650) (List.mem_range.2 (by omega))
    rwa [show 650 + (i - 650) = i by omega] at this
  · have := List.all_eq_true.1 lz14 (i - 700) (List.mem_range.2 (by omega))
    rwa [show 700 + (i - 700) = i by omega] at this
  · have := List.all_eq_true.1 lz15 (i - 750) (List.mem_range.2 (by omega))
    rwa [show 750 + (i - 750) = i by omega] at this
  · have := List.all_eq_true.1 lz16 (i - 800) (List.mem_range.2 (by omega))
    rwa [show 800 + (i - 800) = i by omega] at this
  · have := List.all_eq_true.1 lz17 (i - 850) (List.mem_range.2 (by omega))
    rwa [show 850 + (i - 850) = i by omega] at this
  · have := List.all_eq_true.1 lz18 (i - 900) (List.mem_range.2 (by omega))
    rwa [show 900 + (i - 900) = i by omega] at this
  · have := List.all_eq_true.1 lz19 (i - 950) (List.mem_range.2 (by omega))
    rwa [show 950 + (i - 950) = i by omega] at this
theorem lz_size : Tryz.prog.funcs.size = 985 := by kernel_rfl
theorem me_a : Tryz.prog.laysLater = false := by
  unfold Program.laysLater
  rw [Array.any_eq_false]
  intro i hi
  have := lz_all i (by rw [← lz_size]; exact hi)
  unfold lzB at this
  rw [Array.getElem?_eq_getElem hi] at this
  have this : (!(Tryz.prog.funcs[i].body.isNone && (Tryz.prog.funcs[i].name == "runtime.SetFinalizer" || Tryz.prog.funcs[i].name == "runtime.AddCleanup" || Tryz.prog.funcs[i].origin == "runtime.AddCleanup"))) = true := this
  rw [Bool.not_eq_true'] at this
  rw [this]
  decide
theorem me_b : Tryz.prog.bearsReflect = false := by kernel_rfl
noncomputable def rowsV : List (List UInt8) := [[41, 49, 32, 101, 108, 100, 110, 97, 104, 40, 32, 116, 105, 32, 102, 111, 32, 109, 101, 108, 69, 32, 100, 110, 97, 32, 114, 101, 116, 110, 105, 111, 112, 32, 108, 105, 110, 32, 97, 32, 110, 111, 32, 102, 79, 101, 112, 121, 84, 46, 101, 116, 105, 108, 116, 99, 101, 108, 102, 101, 114, 32, 102, 111, 32, 108, 108, 97, 99, 32, 110, 119, 111, 32, 115, 116, 105, 32, 121, 98, 32, 100, 105, 97, 108, 32, 115, 105, 32, 101, 112, 121, 84, 114, 111, 114, 114, 101, 46, 115, 114, 111, 114, 114, 101, 32, 58, 114, 111, 111, 100, 32, 115, 39, 114, 97, 118], [41, 111, 111, 116, 32, 115, 101, 108, 105, 102, 32, 116, 115, 101, 116, 32, 44, 49, 49, 32, 107, 111, 111, 108, 40, 32, 100, 114, 111, 119, 115, 114, 97, 118, 116, 117, 99, 32, 119, 111, 114, 32, 115, 39, 116, 115, 101, 102, 105, 110, 97, 109, 32, 101, 104, 116, 32, 101, 101, 115, 32, 59, 101, 110, 111, 108, 97, 32, 115, 114, 101, 115, 105, 108, 97, 105, 116, 105, 110, 105, 32, 115, 100, 108, 111, 104, 32, 115, 114, 97, 118, 46, 116, 117, 99, 46, 109, 101, 115, 111, 103, 32, 58, 114, 111, 111, 100, 32, 115, 39, 114, 97, 118], [41, 49, 32, 100, 101, 110, 110, 105, 112, 40, 32, 101, 110, 111, 108, 97, 32, 116, 120, 101, 116, 32, 115, 116, 105, 32, 121, 98, 32, 100, 105, 97, 108, 32, 115, 105, 32, 115, 116, 97, 101, 104, 99, 116, 102, 101, 108, 46, 118, 110, 111, 99, 114, 116, 115, 47, 108, 97, 110, 114, 101, 116, 110, 105, 32, 58, 114, 111, 111, 100, 32, 115, 39, 114, 97, 118], [41, 49, 49, 32, 107, 111, 111, 108, 40, 32, 97, 116, 97, 100, 32, 110, 105, 97, 108, 112, 32, 44, 114, 101, 115, 105, 108, 97, 105, 116, 105, 110, 105, 32, 110, 119, 111, 32, 115, 116, 105, 32, 121, 98, 32, 100, 105, 97, 108, 32, 115, 105, 32, 101, 122, 105, 109, 105, 116, 112, 111, 46, 118, 110, 111, 99, 114, 116, 115, 47, 108, 97, 110, 114, 101, 116, 110, 105, 32, 58, 114, 111, 111, 100, 32, 115, 39, 114, 97, 118], [41, 49, 32, 100, 101, 110, 110, 105, 112, 40, 32, 101, 110, 111, 108, 97, 32, 116, 120, 101, 116, 32, 115, 116, 105, 32, 121, 98, 32, 100, 105, 97, 108, 32, 115, 105, 32, 98, 97, 84, 48, 49, 119, 111, 112, 46, 118, 110, 111, 99, 114, 116, 115, 47, 108, 97, 110, 114, 101, 116, 110, 105, 32, 58, 114, 111, 111, 100, 32, 115, 39, 114, 97, 118], [41, 49, 49, 32, 107, 111, 111, 108, 40, 32, 97, 116, 97, 100, 32, 110, 105, 97, 108, 112, 32, 44, 114, 101, 115, 105, 108, 97, 105, 116, 105, 110, 105, 32, 110, 119, 111, 32, 115, 116, 105, 32, 121, 98, 32, 100, 105, 97, 108, 32, 115, 105, 32, 48, 49, 119, 111, 112, 52, 54, 116, 110, 105, 117, 46, 118, 110, 111, 99, 114, 116, 115, 47, 108, 97, 110, 114, 101, 116, 110, 105, 32, 58, 114, 111, 111, 100, 32, 115, 39, 114, 97, 118], [41, 49, 49, 32, 107, 111, 111, 108, 40, 32, 97, 116, 97, 100, 32, 110, 105, 97, 108, 112, 32, 44, 114, 101, 115, 105, 108, 97, 105, 116, 105, 110, 105, 32, 110, 119, 111, 32, 115, 116, 105, 32, 121, 98, 32, 100, 105, 97, 108, 32, 115, 105, 32, 98, 97, 116, 50, 51, 110, 106, 105, 117, 114, 66, 101, 100, 46, 115, 116, 105, 98, 47, 104, 116, 97, 109, 32, 58, 114, 111, 111, 100, 32, 115, 39, 114, 97, 118], [41, 49, 49, 32, 107, 111, 111, 108, 40, 32, 97, 116, 97, 100, 32, 110, 105, 97, 108, 112, 32, 44, 114, 101, 115, 105, 108, 97, 105, 116, 105, 110, 105, 32, 110, 119, 111, 32, 115, 116, 105, 32, 121, 98, 32, 100, 105, 97, 108, 32, 115, 105, 32, 98, 97, 116, 52, 54, 110, 106, 105, 117, 114, 66, 101, 100, 46, 115, 116, 105, 98, 47, 104, 116, 97, 109, 32, 58, 114, 111, 111, 100, 32, 115, 39, 114, 97, 118], [41, 49, 49, 32, 107, 111, 111, 108, 40, 32, 108, 97, 114, 101, 116, 105, 108, 32, 101, 110, 111, 32, 110, 111, 32, 119, 101, 78, 46, 115, 114, 111, 114, 114, 101, 32, 102, 111, 32, 108, 108, 97, 99, 32, 110, 119, 111, 32, 115, 116, 105, 32, 121, 98, 32, 100, 105, 97, 108, 32, 115, 105, 32, 101, 103, 110, 97, 82, 114, 114, 69, 46, 118, 110, 111, 99, 114, 116, 115, 32, 58, 114, 111, 111, 100, 32, 115, 39, 114, 97, 118], [41, 49, 49, 32, 107, 111, 111, 108, 40, 32, 108, 97, 114, 101, 116, 105, 108, 32, 101, 110, 111, 32, 110, 111, 32, 119, 101, 78, 46, 115, 114, 111, 114, 114, 101, 32, 102, 111, 32, 108, 108, 97, 99, 32, 110, 119, 111, 32, 115, 116, 105, 32, 121, 98, 32, 100, 105, 97, 108, 32, 115, 105, 32, 120, 97, 116, 110, 121, 83, 114, 114, 69, 46, 118, 110, 111, 99, 114, 116, 115, 32, 58, 114, 111, 111, 100, 32, 115, 39, 114, 97, 118], [41, 49, 49, 32, 107, 111, 111, 108, 40, 32, 108, 97, 114, 101, 116, 105, 108, 32, 101, 110, 111, 32, 110, 111, 32, 119, 101, 78, 46, 115, 114, 111, 114, 114, 101, 32, 102, 111, 32, 108, 108, 97, 99, 32, 110, 119, 111, 32, 115, 116, 105, 32, 121, 98, 32, 100, 105, 97, 108, 32, 115, 105, 32, 101, 110, 105, 76, 114, 114, 101, 46, 102, 110, 111, 99, 47, 114, 101, 104, 116, 101, 116, 32, 58, 114, 111, 111, 100, 32, 115, 39, 114, 97, 118], [41, 49, 49, 32, 107, 111, 111, 108, 40, 32, 97, 116, 97, 100, 32, 110, 105, 97, 108, 112, 32, 44, 114, 101, 115, 105, 108, 97, 105, 116, 105, 110, 105, 32, 110, 119, 111, 32, 115, 116, 105, 32, 121, 98, 32, 100, 105, 97, 108, 32, 115, 105, 32, 115, 116, 105, 103, 105, 100, 46, 116, 101, 116, 99, 111, 47, 114, 101, 104, 116, 101, 116, 32, 58, 114, 111, 111, 100, 32, 115, 39, 114, 97, 118], [41, 49, 49, 32, 107, 111, 111, 108, 40, 32, 108, 97, 114, 101, 116, 105, 108, 32, 101, 110, 111, 32, 110, 111, 32, 119, 101, 78, 46, 115, 114, 111, 114, 114, 101, 32, 102, 111, 32, 108, 108, 97, 99, 32, 110, 119, 111, 32, 115, 116, 105, 32, 121, 98, 32, 100, 105, 97, 108, 32, 115, 105, 32, 101, 110, 105, 76, 114, 114, 101, 46, 116, 101, 114, 99, 101, 115, 47, 114, 101, 104, 116, 101, 116, 32, 58, 114, 111, 111, 100, 32, 115, 39, 114, 97, 118], [41, 49, 49, 32, 107, 111, 111, 108, 40, 32, 116, 111, 111, 114, 32, 115, 39, 121, 114, 111, 116, 105, 115, 111, 112, 101, 114, 32, 101, 104, 116, 32, 115, 97, 32, 100, 101, 109, 97, 110, 32, 114, 101, 108, 108, 97, 99, 32, 101, 104, 116, 32, 116, 97, 104, 116, 32, 114, 101, 100, 108, 111, 102, 32, 101, 104, 116, 32, 114, 101, 118, 111, 32, 116, 110, 101, 119, 32, 115, 114, 97, 118, 46, 116, 117, 99, 46, 109, 101, 115, 111, 103, 32, 102, 111, 32, 107, 111, 111, 108, 32, 101, 104, 116, 32, 58, 114, 111, 111, 100, 32, 115, 39, 114, 97, 118], [41, 49, 49, 32, 107, 111, 111, 108, 40, 32, 97, 116, 97, 100, 32, 110, 105, 97, 108, 112, 32, 44, 114, 101, 115, 105, 108, 97, 105, 116, 105, 110, 105, 32, 110, 119, 111, 32, 115, 116, 105, 32, 121, 98, 32, 100, 105, 97, 108, 32, 115, 105, 32, 115, 101, 103, 110, 97, 82, 116, 112, 101, 99, 99, 97, 46, 56, 102, 116, 117, 47, 101, 100, 111, 99, 105, 110, 117, 32, 58, 114, 111, 111, 100, 32, 115, 39, 114, 97, 118], [41, 49, 32, 100, 101, 110, 110, 105, 112, 40, 32, 101, 110, 111, 108, 97, 32, 116, 120, 101, 116, 32, 115, 116, 105, 32, 121, 98, 32, 100, 105, 97, 108, 32, 115, 105, 32, 116, 115, 114, 105, 102, 46, 56, 102, 116, 117, 47, 101, 100, 111, 99, 105, 110, 117, 32, 58, 114, 111, 111, 100, 32, 115, 39, 114, 97, 118]]
theorem me_d : Tryz.prog.doorRows = rowsV := by kernel_rfl
noncomputable def wordsV : List (List Char) := ["cut".toList, "at".toList, "tether/tethertop.TopEchoes".toList, "tether/tethertop.TopRises".toList, "tether/tethertop.TopWaits".toList, "tether/tethertop.TopSizes".toList]
theorem me_w : behindMainWord (wordsSigns Tryz.prog.initOrder.toList) = wordsV := by kernel_rfl
noncomputable def fitsV (rows : List (List UInt8)) (lifts : List String) : Bool :=
  !((rows.any fun n => ["(look 8)", "(look 8, test files too)", "(list 7)", "(look 7)"].any (endsIn · n)) &&
    (lifts.contains "libbeside" || lifts.contains "reflbeside" || lifts.contains "aliases" || lifts.contains "afterinit" || lifts.contains "crcplain" ||
     rows.any fun n => ["(look 11)", "(look 11, test files too)", "(list 10)", "(look 11-elder)", "(handle 1)", "(map 1)", "(funcs 1)", "(called 1)", "(data 2)", "(zero 1)", "(deep 1)", "(pinned 1)"].any (endsIn · n))) &&
  (rows.isEmpty || !(lifts.contains "ownunsafe" || lifts.contains "roadunsafe") || lifts.contains "libbeside") &&
  (lifts.contains "ownunsafe" || !lifts.contains "libbeside") && (lifts.contains "libbeside" || !lifts.contains "ownbeside")
theorem fits_eq (P : Program) (lifts : List String) : P.doorFits lifts = fitsV P.doorRows lifts := rfl
theorem me_f : fitsV rowsV (stripLifts liftWords wordsV).1 = true := by kernel_rfl
theorem me_g : ((stripLifts liftWords wordsV).2.head? == some "cut".toList) = true := by kernel_rfl
theorem me_h : (!(stripLifts liftWords wordsV).1.contains "leanrows") = true := by kernel_rfl
theorem enter_of {P : Program} {c : List Char} {rest : List (List Char)} (h1 : behindMainWord (wordsSigns P.initOrder.toList) = c :: rest) (h2 : P.laysLater = false) (h3 : P.bearsReflect = false)
    (h4 : P.doorFits (stripLifts liftWords (c :: rest)).1 = true) (h5 : ((stripLifts liftWords (c :: rest)).2.head? == some "cut".toList) = true) (h6 : (!(stripLifts liftWords (c :: rest)).1.contains "leanrows") = true) : P.mayEnter = true := by
  unfold Program.mayEnter
  rw [h1]
  simp only [h2, h3, h4, h5, h6, Bool.not_false, Bool.or_true, Bool.and_self, Bool.and_true]
theorem j25 : Tryz.prog.mayEnter = true := enter_of me_w me_a me_b (by rw [fits_eq, me_d]; exact me_f) me_g me_h
end Go.Proofs.YtoklobcagaolmaaGreatDoor
