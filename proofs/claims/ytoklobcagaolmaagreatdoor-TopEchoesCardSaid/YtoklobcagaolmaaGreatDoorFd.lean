/- THE ROW's FACTS, joined. No condition. -/
import Derived.Test.YtoklobcagaolmaaGreatDoorFc
import Derived.Test.YtoklobcagaolmaaGreatDoorFe
import Derived.Test.YtoklobcagaolmaaGreatDoorFf
import Derived.Test.YtoklobcagaolmaaGreatDoorFg

namespace Go.Proofs.YtoklobcagaolmaaGreatDoor
set_option maxRecDepth 1000000
theorem j0 : (OpenClaim.wf (OpenSpec.ofChange Rows.topEchoesSpec) Rows.topEchoesRow) = true := by kernel_rfl
theorem j1 : (laidOutB Tryz.prog) = true := f_laidOut
theorem j3 : (Tryz.f3.params.all (fun x => Tryz.prog.readableRec x)) = true := by kernel_rfl
theorem j4 : (namedTie Tryz.prog Rows.topEchoesRow.named Rows.topEchoesSpec.vars) = true := by kernel_rfl
theorem j9 : ((Rows.topEchoesRow.inPlace == Tryz.prog.inPlace 3)) = true := f_inPlace
theorem j10 : ((Rows.topEchoesRow.unfollowed == Tryz.prog.unfollowed 3)) = true := f_unfollowed
theorem j11 : ((Rows.topEchoesRow.recurses == Tryz.prog.recurses 3)) = true := f_recurses
theorem j12 : ((Rows.topEchoesRow.named == Tryz.prog.varsNamed 3)) = true := f_vars
theorem j13 : ((Rows.topEchoesRow.maps == (Tryz.f3.params.toList ++ DataSpec.varTypes Tryz.prog Rows.topEchoesSpec.plain).any (fun x => Tryz.prog.mapsRec x))) = true := by kernel_rfl
theorem j14 : ((Rows.topEchoesRow.ifaces == (Tryz.f3.params.toList ++ DataSpec.varTypes Tryz.prog Rows.topEchoesSpec.plain).any (fun x => Tryz.prog.ifacesRec x))) = true := by kernel_rfl
theorem j15 : ((Rows.topEchoesRow.mapsOut == Tryz.prog.mapsAmong Tryz.f3.resultTypes.toList)) = true := by kernel_rfl
theorem j16 : ((Rows.topEchoesRow.loops == (Tryz.f3.params.toList ++ DataSpec.varTypes Tryz.prog Rows.topEchoesSpec.plain).any (fun x => Tryz.prog.loopsFrom x))) = true := by kernel_rfl
theorem j17 : ((Rows.topEchoesRow.wideKeys == (Tryz.f3.params.toList ++ DataSpec.varTypes Tryz.prog Rows.topEchoesSpec.plain ++ Tryz.f3.resultTypes.toList).any (fun x => Tryz.prog.wideKeysFrom x))) = true := by kernel_rfl
theorem j18 : (Rows.topEchoesSpec.vars.all (fun x => Tryz.prog.varReadable x)) = true := by kernel_rfl
theorem j19 : (Tryz.f3.resultTypes.all (fun t => Tryz.prog.readableRec t && decide (t < Tryz.prog.types.size))) = true := by kernel_rfl
theorem j20 : ((Rows.topEchoesRow.ifacesOut == Tryz.f3.resultTypes.toList.any (fun x => Tryz.prog.ifacesRec x))) = true := by kernel_rfl
theorem j21 : ((Rows.topEchoesRow.loopsOut == Tryz.f3.resultTypes.toList.any (fun x => Tryz.prog.loopsFrom x))) = true := by kernel_rfl
theorem j22 : ((Rows.topEchoesRow.plainKeys == Tryz.prog.plainKeys)) = true := by kernel_rfl
theorem j23 : (Rows.topEchoesRow.shortTexts.isNone) = true := by kernel_rfl
theorem j26 : ((Rows.topEchoesRow.lifted == Tryz.prog.liftsFinal)) = true := by kernel_rfl
theorem j27 : ((Tryz.prog.make == some Rows.topEchoesRow.make)) = true := by kernel_rfl
theorem j28 : ((Rows.topEchoesRow.kinds == if Rows.topEchoesRow.domain.isEmpty = true then [] else List.map (fun t => match Tryz.prog.underlying t with | some (TypeDesc.int k) => some k | _ => none) Tryz.f3.params.toList)) = true := by kernel_rfl
theorem j29 : ((Rows.topEchoesRow.pinned == Rows.topEchoesRow.pinnedBy)) = true := by kernel_rfl
theorem j30 : ((Rows.topEchoesRow.veiled == (Tryz.f3.params.toList ++ DataSpec.varTypes Tryz.prog Rows.topEchoesSpec.plain ++ Tryz.f3.resultTypes.toList).any (fun x => Tryz.prog.veiledRec x))) = true := by kernel_rfl
theorem j31 : (Rows.topEchoesRow.veiledFits Tryz.prog Tryz.f3.params.toList (Tryz.f3.params.toList ++ DataSpec.varTypes Tryz.prog Rows.topEchoesSpec.plain ++ Tryz.f3.resultTypes.toList)) = true := by kernel_rfl
theorem joined_of {P : Program} {f : FuncId} {fn : Func} {s : ChangeSpec} {c : OpenClaim}
    (h0 : (OpenClaim.wf (OpenSpec.ofChange s)  c) = true)
    (h1 : (laidOutB P) = true)
    (h2 : (mapsRowed P) = true)
    (h3 : (fn.params.all (fun x => P.readableRec x)) = true)
    (h4 : (namedTie P c.named s.vars) = true)
    (h5 : ((c.stops == [])) = true)
    (h6 : ((P.stops == [])) = true)
    (h7 : ((c.knobs == [])) = true)
    (h8 : ((P.stopKnobs == [])) = true)
    (h9 : ((c.inPlace == P.inPlace f)) = true)
    (h10 : ((c.unfollowed == P.unfollowed f)) = true)
    (h11 : ((c.recurses == P.recurses f)) = true)
    (h12 : ((c.named == P.varsNamed f)) = true)
    (h13 : ((c.maps == (fn.params.toList ++ DataSpec.varTypes P s.plain).any (fun x => P.mapsRec x))) = true)
    (h14 : ((c.ifaces == (fn.params.toList ++ DataSpec.varTypes P s.plain).any (fun x => P.ifacesRec x))) = true)
    (h15 : ((c.mapsOut == P.mapsAmong fn.resultTypes.toList)) = true)
    (h16 : ((c.loops == (fn.params.toList ++ DataSpec.varTypes P s.plain).any (fun x => P.loopsFrom x))) = true)
    (h17 : ((c.wideKeys == (fn.params.toList ++ DataSpec.varTypes P s.plain ++ fn.resultTypes.toList).any (fun x => P.wideKeysFrom x))) = true)
    (h18 : (s.vars.all (fun x => P.varReadable x)) = true)
    (h19 : (fn.resultTypes.all (fun t => P.readableRec t && decide (t < P.types.size))) = true)
    (h20 : ((c.ifacesOut == fn.resultTypes.toList.any (fun x => P.ifacesRec x))) = true)
    (h21 : ((c.loopsOut == fn.resultTypes.toList.any (fun x => P.loopsFrom x))) = true)
    (h22 : ((c.plainKeys == P.plainKeys)) = true)
    (h23 : (c.shortTexts.isNone) = true)
    (h24 : (P.stopsHeard) = true)
    (h25 : (P.mayEnter) = true)
    (h26 : ((c.lifted == P.liftsFinal)) = true)
    (h27 : ((P.make == some c.make)) = true)
    (h28 : ((c.kinds == if c.domain.isEmpty = true then [] else List.map (fun t => match P.underlying t with | some (TypeDesc.int k) => some k | _ => none) fn.params.toList)) = true)
    (h29 : ((c.pinned == c.pinnedBy)) = true)
    (h30 : ((c.veiled == (fn.params.toList ++ DataSpec.varTypes P s.plain ++ fn.resultTypes.toList).any (fun x => P.veiledRec x))) = true)
    (h31 : (c.veiledFits P fn.params.toList (fn.params.toList ++ DataSpec.varTypes P s.plain ++ fn.resultTypes.toList)) = true) :
    joinedFacts P f fn s c = true := by
  unfold joinedFacts
  simp only [Bool.and_eq_true]
  exact ⟨⟨⟨⟨⟨⟨⟨⟨⟨⟨⟨⟨⟨⟨⟨⟨⟨⟨⟨⟨⟨⟨⟨⟨⟨⟨⟨⟨⟨⟨⟨h0, h1⟩, h2⟩, h3⟩, h4⟩, h5⟩, h6⟩, h7⟩, h8⟩, h9⟩, h10⟩, h11⟩, h12⟩, h13⟩, h14⟩, h15⟩, h16⟩, h17⟩, h18⟩, h19⟩, h20⟩, h21⟩, h22⟩, h23⟩, h24⟩, h25⟩, h26⟩, h27⟩, h28⟩, h29⟩, h30⟩, h31⟩
theorem joined : joinedFacts Tryz.prog 3 Tryz.f3 Rows.topEchoesSpec Rows.topEchoesRow = true :=
  joined_of j0 j1 j2 j3 j4 j5 j6 j7 j8 j9 j10 j11 j12 j13 j14 j15 j16 j17 j18 j19 j20 j21 j22 j23 j24 j25 j26 j27 j28 j29 j30 j31
end Go.Proofs.YtoklobcagaolmaaGreatDoor
