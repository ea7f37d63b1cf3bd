/- THE ROW's FACTS over them, piece by piece. No condition. -/
import Derived.Test.YtoklobcagaolmaaGreatDoorFa
import Derived.SevenTiedAt

namespace Go.Proofs.YtoklobcagaolmaaGreatDoor
set_option maxRecDepth 1000000
/-! ## the row's facts that go over the closure -/
noncomputable def selF (g : FuncId) : Option String := (Tryz.prog.funcs[g]?).bind fun fn => if fn.ours || fn.body.isNone || fn.name == "runtime.NumGoroutine" then some fn.name else none
noncomputable def globF (g : FuncId) : List Nat := ((Tryz.prog.funcs[g]?).bind (·.body)).elim [] Code.globalsNamed
noncomputable def readsF (g : FuncId) : Option String := (Tryz.prog.funcs[g]?).bind fun fn => if fn.body.isNone then entryReads.lookup fn.name else none
noncomputable def unfF (g : FuncId) : Bool := (Tryz.prog.funcs[g]?).any fun fn => match fn.body with | some c => c.unfollowed | none => entryCalls fn
theorem inpl0 : ck0.filterMap selF = ["internal/reflectlite.TypeOf", "internal/reflectlite.ValueOf", "(internal/reflectlite.Value).Type", "(internal/reflectlite.Value).IsNil", "(internal/reflectlite.Value).Elem", "(internal/reflectlite.Value).Set", "internal/bytealg.CountString"] := by kernel_rfl
theorem glob0 : ck0.flatMap globF = [1, 2, 7, 8] := by kernel_rfl
theorem reads0 : ck0.filterMap readsF = [] := by kernel_rfl
theorem inpl1 : ck1.filterMap selF = ["internal/bytealg.IndexByteString", "internal/bytealg.IndexString", "internal/abi.NoEscape"] := by kernel_rfl
theorem glob1 : ck1.flatMap globF = [5, 5, 5] := by kernel_rfl
theorem reads1 : ck1.filterMap readsF = ["internal/bytealg.MaxLen"] := by kernel_rfl
theorem inpl2 : ck2.filterMap selF = [] := by kernel_rfl
theorem glob2 : ck2.flatMap globF = [9, 10] := by kernel_rfl
theorem reads2 : ck2.filterMap readsF = [] := by kernel_rfl
theorem inpl3 : ck3.filterMap selF = [] := by kernel_rfl
theorem glob3 : ck3.flatMap globF = [6, 12, 13, 0, 0, 0, 0, 0, 0] := by kernel_rfl
theorem reads3 : ck3.filterMap readsF = [] := by kernel_rfl
theorem inpl4 : ck4.filterMap selF = [] := by kernel_rfl
theorem glob4 : ck4.flatMap globF = [] := by kernel_rfl
theorem reads4 : ck4.filterMap readsF = [] := by kernel_rfl
theorem inpl5 : ck5.filterMap selF = ["math.Float64frombits"] := by kernel_rfl
theorem glob5 : ck5.flatMap globF = [] := by kernel_rfl
theorem reads5 : ck5.filterMap readsF = [] := by kernel_rfl
theorem inpl6 : ck6.filterMap selF = [] := by kernel_rfl
theorem glob6 : ck6.flatMap globF = [] := by kernel_rfl
theorem reads6 : ck6.filterMap readsF = [] := by kernel_rfl
theorem inpl7 : ck7.filterMap selF = [] := by kernel_rfl
theorem glob7 : ck7.flatMap globF = [] := by kernel_rfl
theorem reads7 : ck7.filterMap readsF = [] := by kernel_rfl
theorem inpl8 : ck8.filterMap selF = [] := by kernel_rfl
theorem glob8 : ck8.flatMap globF = [] := by kernel_rfl
theorem reads8 : ck8.filterMap readsF = [] := by kernel_rfl
theorem inpl9 : ck9.filterMap selF = [] := by kernel_rfl
theorem glob9 : ck9.flatMap globF = [] := by kernel_rfl
theorem reads9 : ck9.filterMap readsF = [] := by kernel_rfl
theorem inpl10 : ck10.filterMap selF = [] := by kernel_rfl
theorem glob10 : ck10.flatMap globF = [] := by kernel_rfl
theorem reads10 : ck10.filterMap readsF = [] := by kernel_rfl
theorem inpl11 : ck11.filterMap selF = [] := by kernel_rfl
theorem glob11 : ck11.flatMap globF = [] := by kernel_rfl
theorem reads11 : ck11.filterMap readsF = [] := by kernel_rfl
theorem inpl12 : ck12.filterMap selF = [] := by kernel_rfl
theorem glob12 : ck12.flatMap globF = [] := by kernel_rfl
theorem reads12 : ck12.filterMap readsF = [] := by kernel_rfl
theorem inpl13 : ck13.filterMap selF = [] := by kernel_rfl
theorem glob13 : ck13.flatMap globF = [] := by kernel_rfl
theorem reads13 : ck13.filterMap readsF = [] := by kernel_rfl
theorem inpl14 : ck14.filterMap selF = [] := by kernel_rfl
theorem glob14 : ck14.flatMap globF = [] := by kernel_rfl
theorem reads14 : ck14.filterMap readsF = [] := by kernel_rfl
theorem inpl15 : ck15.filterMap selF = [] := by kernel_rfl
theorem glob15 : ck15.flatMap globF = [] := by kernel_rfl
theorem reads15 : ck15.filterMap readsF = [] := by kernel_rfl
theorem inpl16 : ck16.filterMap selF = [] := by kernel_rfl
theorem glob16 : ck16.flatMap globF = [] := by kernel_rfl
theorem reads16 : ck16.filterMap readsF = [] := by kernel_rfl
theorem inpl17 : ck17.filterMap selF = ["internal/bytealg.MakeNoZero"] := by kernel_rfl
theorem glob17 : ck17.flatMap globF = [] := by kernel_rfl
theorem reads17 : ck17.filterMap readsF = [] := by kernel_rfl
theorem inpl18 : ck18.filterMap selF = ["math.Float64bits", "internal/strconv.float32bits", "internal/strconv.float64bits"] := by kernel_rfl
theorem glob18 : ck18.flatMap globF = [11] := by kernel_rfl
theorem reads18 : ck18.filterMap readsF = [] := by kernel_rfl
theorem inpl19 : ck19.filterMap selF = [] := by kernel_rfl
theorem glob19 : ck19.flatMap globF = [14, 14, 6, 15, 15, 11] := by kernel_rfl
theorem reads19 : ck19.filterMap readsF = [] := by kernel_rfl
theorem inpl20 : ck20.filterMap selF = [] := by kernel_rfl
theorem glob20 : ck20.flatMap globF = [] := by kernel_rfl
theorem reads20 : ck20.filterMap readsF = [] := by kernel_rfl
theorem inpl21 : ck21.filterMap selF = [] := by kernel_rfl
theorem glob21 : ck21.flatMap globF = [3, 3] := by kernel_rfl
theorem reads21 : ck21.filterMap readsF = [] := by kernel_rfl
noncomputable def goB (i : Nat) : Bool := !((Tryz.prog.funcs[i]?).any Func.goes)
theorem go0 : ((List.range 50).all fun j => goB (0 + j)) = true := by kernel_rfl
theorem go1 : ((List.range 50).all fun j => goB (50 + j)) = true := by kernel_rfl
theorem go2 : ((List.range 50).all fun j => goB (100 + j)) = true := by kernel_rfl
theorem go3 : ((List.range 50).all fun j => goB (150 + j)) = true := by kernel_rfl
theorem go4 : ((List.range 50).all fun j => goB (200 + j)) = true := by kernel_rfl
theorem go5 : ((List.range 50).all fun j => goB (250 + j)) = true := by kernel_rfl
theorem go6 : ((List.range 50).all fun j => goB (300 + j)) = true := by kernel_rfl
theorem go7 : ((List.range 50).all fun j => goB (350 + j)) = true := by kernel_rfl
theorem go8 : ((List.range 50).all fun j => goB (400 + j)) = true := by kernel_rfl
theorem go9 : ((List.range 50).all fun j => goB (450 + j)) = true := by kernel_rfl
theorem go10 : ((List.range 50).all fun j => goB (500 + j)) = true := by kernel_rfl
theorem go11 : ((List.range 50).all fun j => goB (550 + j)) = true := by kernel_rfl
theorem go12 : ((List.range 50).all fun j => goB (600 + j)) = true := by kernel_rfl
theorem go13 : ((List.range 50).all fun j => goB (650 + j)) = true := by kernel_rfl
theorem go14 : ((List.range 50).all fun j => goB (700 + j)) = true := by kernel_rfl
theorem go15 : ((List.range 50).all fun j => goB (750 + j)) = true := by kernel_rfl
theorem go16 : ((List.range 50).all fun j => goB (800 + j)) = true := by kernel_rfl
theorem go17 : ((List.range 50).all fun j => goB (850 + j)) = true := by kernel_rfl
theorem go18 : ((List.range 50).all fun j => goB (900 + j)) = true := by kernel_rfl
theorem go19 : ((List.range 35).all fun j => goB (950 + j)) = true := by kernel_rfl
noncomputable def nmB (i : Nat) : Bool := (Tryz.prog.funcs[i]?).any fun f => f.name == "tether/tethertop.TopEchoes"
noncomputable def nmC (i : Nat) : Bool := !(nmB i) || i == 3
theorem nm0 : ((List.range 50).all fun j => nmC (0 + j)) = true := by kernel_rfl
theorem nm1 : ((List.range 50).all fun j => nmC (50 + j)) = true := by kernel_rfl
theorem nm2 : ((List.range 50).all fun j => nmC (100 + j)) = true := by kernel_rfl
theorem nm3 : ((List.range 50).all fun j => nmC (150 + j)) = true := by kernel_rfl
theorem nm4 : ((List.range 50).all fun j => nmC (200 + j)) = true := by kernel_rfl
theorem nm5 : ((List.range 50).all fun j => nmC (250 + j)) = true := by kernel_rfl
theorem nm6 : ((List.range 50).all fun j => nmC (300 + j)) = true := by kernel_rfl
theorem nm7 : ((List.range 50).all fun j => nmC (350 + j)) = true := by kernel_rfl
theorem nm8 : ((List.range 50).all fun j => nmC (400 + j)) = true := by kernel_rfl
theorem nm9 : ((List.range 50).all fun j => nmC (450 + j)) = true := by kernel_rfl
theorem nm10 : ((List.range 50).all fun j => nmC (500 + j)) = true := by kernel_rfl
theorem nm11 : ((List.range 50).all fun j => nmC (550 + j)) = true := by kernel_rfl
theorem nm12 : ((List.range 50).all fun j => nmC (600 + j)) = true := by kernel_rfl
theorem nm13 : ((List.range 50).all fun j => nmC (650 + j)) = true := by kernel_rfl
theorem nm14 : ((List.range 50).all fun j => nmC (700 + j)) = true := by kernel_rfl
theorem nm15 : ((List.range 50).all fun j => nmC (750 + j)) = true := by kernel_rfl
theorem nm16 : ((List.range 50).all fun j => nmC (800 + j)) = true := by kernel_rfl
theorem nm17 : ((List.range 50).all fun j => nmC (850 + j)) = true := by kernel_rfl
theorem nm18 : ((List.range 50).all fun j => nmC (900 + j)) = true := by kernel_rfl
theorem nm19 : ((List.range 35).all fun j => nmC (950 + j)) = true := by kernel_rfl
noncomputable def layB (i : Nat) : Bool := (Tryz.prog.funcs[i]?).elim true fun f => f.params.all fun t => decide (t < 994)
theorem lay0 : ((List.range 50).all fun j => layB (0 + j)) = true := by kernel_rfl
theorem lay1 : ((List.range 50).all fun j => layB (50 + j)) = true := by kernel_rfl
theorem lay2 : ((List.range 50).all fun j => layB (100 + j)) = true := by kernel_rfl
theorem lay3 : ((List.range 50).all fun j => layB (150 + j)) = true := by kernel_rfl
theorem lay4 : ((List.range 50).all fun j => layB (200 + j)) = true := by kernel_rfl
theorem lay5 : ((List.range 50).all fun j => layB (250 + j)) = true := by kernel_rfl
theorem lay6 : ((List.range 50).all fun j => layB (300 + j)) = true := by kernel_rfl
theorem lay7 : ((List.range 50).all fun j => layB (350 + j)) = true := by kernel_rfl
theorem lay8 : ((List.range 50).all fun j => layB (400 + j)) = true := by kernel_rfl
theorem lay9 : ((List.range 50).all fun j => layB (450 + j)) = true := by kernel_rfl
theorem lay10 : ((List.range 50).all fun j => layB (500 + j)) = true := by kernel_rfl
theorem lay11 : ((List.range 50).all fun j => layB (550 + j)) = true := by kernel_rfl
theorem lay12 : ((List.range 50).all fun j => layB (600 + j)) = true := by kernel_rfl
theorem lay13 : ((List.range 50).all fun j => layB (650 + j)) = true := by kernel_rfl
theorem lay14 : ((List.range 50).all fun j => layB (700 + j)) = true := by kernel_rfl
theorem lay15 : ((List.range 50).all fun j => layB (750 + j)) = true := by kernel_rfl
theorem lay16 : ((List.range 50).all fun j => layB (800 + j)) = true := by kernel_rfl
theorem lay17 : ((List.range 50).all fun j => layB (850 + j)) = true := by kernel_rfl
theorem lay18 : ((List.range 50).all fun j => layB (900 + j)) = true := by kernel_rfl
theorem lay19 : ((List.range 35).all fun j => layB (950 + j)) = true := by kernel_rfl
theorem fine0 : ((List.range 50).all fun j => rowFine Tryz.prog (0 + j)) = true := by kernel_rfl
theorem fine1 : ((List.range 50).all fun j => rowFine Tryz.prog (50 + j)) = true := by kernel_rfl
theorem fine2 : ((List.range 50).all fun j => rowFine Tryz.prog (100 + j)) = true := by kernel_rfl
theorem fine3 : ((List.range 50).all fun j => rowFine Tryz.prog (150 + j)) = true := by kernel_rfl
theorem fine4 : ((List.range 50).all fun j => rowFine Tryz.prog (200 + j)) = true := by kernel_rfl
theorem fine5 : ((List.range 50).all fun j => rowFine Tryz.prog (250 + j)) = true := by kernel_rfl
theorem fine6 : ((List.range 50).all fun j => rowFine Tryz.prog (300 + j)) = true := by kernel_rfl
theorem fine7 : ((List.range 50).all fun j => rowFine Tryz.prog (350 + j)) = true := by kernel_rfl
theorem fine8 : ((List.range 50).all fun j => rowFine Tryz.prog (400 + j)) = true := by kernel_rfl
theorem fine9 : ((List.range 50).all fun j => rowFine Tryz.prog (450 + j)) = true := by kernel_rfl
theorem fine10 : ((List.range 50).all fun j => rowFine Tryz.prog (500 + j)) = true := by kernel_rfl
theorem fine11 : ((List.range 50).all fun j => rowFine Tryz.prog (550 + j)) = true := by kernel_rfl
theorem fine12 : ((List.range 50).all fun j => rowFine Tryz.prog (600 + j)) = true := by kernel_rfl
theorem fine13 : ((List.range 50).all fun j => rowFine Tryz.prog (650 + j)) = true := by kernel_rfl
theorem fine14 : ((List.range 50).all fun j => rowFine Tryz.prog (700 + j)) = true := by kernel_rfl
theorem fine15 : ((List.range 50).all fun j => rowFine Tryz.prog (750 + j)) = true := by kernel_rfl
theorem fine16 : ((List.range 50).all fun j => rowFine Tryz.prog (800 + j)) = true := by kernel_rfl
theorem fine17 : ((List.range 50).all fun j => rowFine Tryz.prog (850 + j)) = true := by kernel_rfl
theorem fine18 : ((List.range 50).all fun j => rowFine Tryz.prog (900 + j)) = true := by kernel_rfl
theorem fine19 : ((List.range 44).all fun j => rowFine Tryz.prog (950 + j)) = true := by kernel_rfl
end Go.Proofs.YtoklobcagaolmaaGreatDoor
