/- THE ROW's FACTS that go over the closure. No condition. -/
import Derived.Test.YtoklobcagaolmaaGreatDoorFb
import Derived.SevenTiedAt

namespace Go.Proofs.YtoklobcagaolmaaGreatDoor
set_option maxRecDepth 1000000
/-! ## the row's facts that go over the closure -/
theorem inpl_all : clL.filterMap selF = ["internal/reflectlite.TypeOf", "internal/reflectlite.ValueOf", "(internal/reflectlite.Value).Type", "(internal/reflectlite.Value).IsNil", "(internal/reflectlite.Value).Elem", "(internal/reflectlite.Value).Set", "internal/bytealg.CountString", "internal/bytealg.IndexByteString", "internal/bytealg.IndexString", "internal/abi.NoEscape", "math.Float64frombits", "internal/bytealg.MakeNoZero", "math.Float64bits", "internal/strconv.float32bits", "internal/strconv.float64bits"] := by
  unfold clL
  rw [List.filterMap_append, List.filterMap_append, List.filterMap_append, List.filterMap_append, List.filterMap_append, List.filterMap_append, List.filterMap_append, List.filterMap_append, List.filterMap_append, List.filterMap_append, List.filterMap_append, List.filterMap_append, List.filterMap_append, List.filterMap_append, List.filterMap_append, List.filterMap_append, List.filterMap_append, List.filterMap_append, List.filterMap_append, List.filterMap_append, List.filterMap_append, inpl0, inpl1, inpl2, inpl3, inpl4, inpl5, inpl6, inpl7, inpl8, inpl9, inpl10, inpl11, inpl12, inpl13, inpl14, inpl15, inpl16, inpl17, inpl18, inpl19, inpl20, inpl21]
  rfl
theorem glob_all : clL.flatMap globF = [1, 2, 7, 8, 5, 5, 5, 9, 10, 6, 12, 13, 0, 0, 0, 0, 0, 0, 11, 14, 14, 6, 15, 15, 11, 3, 3] := by
  unfold clL
  rw [List.flatMap_append, List.flatMap_append, List.flatMap_append, List.flatMap_append, List.flatMap_append, List.flatMap_append, List.flatMap_append, List.flatMap_append, List.flatMap_append, List.flatMap_append, List.flatMap_append, List.flatMap_append, List.flatMap_append, List.flatMap_append, List.flatMap_append, List.flatMap_append, List.flatMap_append, List.flatMap_append, List.flatMap_append, List.flatMap_append, List.flatMap_append, glob0, glob1, glob2, glob3, glob4, glob5, glob6, glob7, glob8, glob9, glob10, glob11, glob12, glob13, glob14, glob15, glob16, glob17, glob18, glob19, glob20, glob21]
  rfl
theorem reads_all : clL.filterMap readsF = ["internal/bytealg.MaxLen"] := by
  unfold clL
  rw [List.filterMap_append, List.filterMap_append, List.filterMap_append, List.filterMap_append, List.filterMap_append, List.filterMap_append, List.filterMap_append, List.filterMap_append, List.filterMap_append, List.filterMap_append, List.filterMap_append, List.filterMap_append, List.filterMap_append, List.filterMap_append, List.filterMap_append, List.filterMap_append, List.filterMap_append, List.filterMap_append, List.filterMap_append, List.filterMap_append, List.filterMap_append, reads0, reads1, reads2, reads3, reads4, reads5, reads6, reads7, reads8, reads9, reads10, reads11, reads12, reads13, reads14, reads15, reads16, reads17, reads18, reads19, reads20, reads21]
  rfl
theorem inpl_eq : (Rows.topEchoesRow.inPlace == ["internal/reflectlite.TypeOf", "internal/reflectlite.ValueOf", "(internal/reflectlite.Value).Type", "(internal/reflectlite.Value).IsNil", "(internal/reflectlite.Value).Elem", "(internal/reflectlite.Value).Set", "internal/bytealg.CountString", "internal/bytealg.IndexByteString", "internal/bytealg.IndexString", "internal/abi.NoEscape", "math.Float64frombits", "internal/bytealg.MakeNoZero", "math.Float64bits", "internal/strconv.float32bits", "internal/strconv.float64bits"]) = true := by kernel_rfl
theorem f_inPlace : (Rows.topEchoesRow.inPlace == Tryz.prog.inPlace 3) = true := by
  have e : Tryz.prog.inPlace 3 = clL.filterMap selF := by unfold Program.inPlace; rw [closure3]; rfl
  rw [e, inpl_all]
  exact inpl_eq
theorem vars_eq : (Rows.topEchoesRow.named == ((([1, 2, 7, 8, 5, 5, 5, 9, 10, 6, 12, 13, 0, 0, 0, 0, 0, 0, 11, 14, 14, 6, 15, 15, 11, 3, 3] : List Nat).eraseDups).filterMap (fun g => (Tryz.prog.globals[g]?).map (·.name)) ++ ["internal/bytealg.MaxLen"]).eraseDups) = true := by kernel_rfl
theorem f_vars : (Rows.topEchoesRow.named == Tryz.prog.varsNamed 3) = true := by
  have e : Tryz.prog.varsNamed 3 = (((clL.flatMap globF).eraseDups).filterMap (fun g => (Tryz.prog.globals[g]?).map (·.name)) ++ clL.filterMap readsF).eraseDups := by unfold Program.varsNamed; rw [closure3]; rfl
  rw [e, glob_all, reads_all]
  exact vars_eq
theorem unf_one : unfF 93 = true := by kernel_rfl
theorem unf_in : clL.contains 93 = true := by kernel_rfl
theorem unf3 : Tryz.prog.unfollowed 3 = true := by
  have e : Tryz.prog.unfollowed 3 = clL.any unfF := by unfold Program.unfollowed; rw [closure3]; rfl
  rw [e]
  exact List.any_eq_true.2 ⟨93, List.contains_iff_mem.1 unf_in, unf_one⟩
theorem f_unfollowed : (Rows.topEchoesRow.unfollowed == Tryz.prog.unfollowed 3) = true := by rw [unf3]; rfl
theorem f_recurses : (Rows.topEchoesRow.recurses == Tryz.prog.recurses 3) = true := by
  have e : Tryz.prog.recurses 3 = true := by unfold Program.recurses; rw [unf3]; rfl
  rw [e]; rfl
theorem go_all : ∀ i, i < 985 → goB i = true := by
  intro i hi
  have hk : i / 50 = 0 ∨ i / 50 = 1 ∨ i / 50 = 2 ∨ i / 50 = 3 ∨ i / 50 = 4 ∨ i / 50 = 5 ∨ i / 50 = 6 ∨ i / 50 = 7 ∨ i / 50 = 8 ∨ i / 50 = 9 ∨ i / 50 = 10 ∨ i / 50 = 11 ∨ i / 50 = 12 ∨ i / 50 = 13 ∨ i / 50 = 14 ∨ i / 50 = 15 ∨ i / 50 = 16 ∨ i / 50 = 17 ∨ i / 50 = 18 ∨ i / 50 = 19 := by omega
  rcases hk with h | h | h | h | h | h | h | h | h | h | h | h | h | h | h | h | h | h | h | h
  · have := List.all_eq_true.1 go0 (i - 0) (List.mem_range.2 (by omega))
    rwa [show 0 + (i - 0) = i by omega] at this
  · have := List.all_eq_true.1 go1 (i - 50) (List.mem_range.2 (by omega))
    rwa [show 50 + (i - 50) = i by omega] at this
  · have := List.all_eq_true.1 go2 (i - 100) (List.mem_range.2 (by omega))
    rwa [show 100 + (i - 100) = i by omega] at this
  · have := List.all_eq_true.1 go3 (i - 150) (List.mem_range.2 (by omega))
    rwa [show 150 + (i - 150) = i by omega] at this
  · have := List.all_eq_true.1 go4 (i - 200) (List.mem_range.2 (by omega))
    rwa [show 200 + (i - 200) = i by omega] at this
  · have := List.all_eq_true.1 go5 (i - 250) (List.mem_range.2 (by omega))
    rwa [show 250 + (i - 250) = i by omega] at this
  · have := List.all_eq_true.1 go6 (i - 300) (List.mem_range.2 (by omega))
    rwa [show 300 + (i - 300) = i by omega] at this
  · have := List.all_eq_true.1 go7 (i - 350) (List.mem_range.2 (by omega))
    rwa [show 350 + (i - 350) = i by omega] at this
  · have := List.all_eq_true.1 go8 (i - 400) (List.mem_range.2 (by omega))
    rwa [show 400 + (i - 400) = i by omega] at this
  · have := List.all_eq_true.1 go9 (i - 450) (List.mem_range.2 (by omega))
    rwa [show 450 + (i - 450) = i by omega] at this
  · have := List.all_eq_true.1 go10 (i - 500) (List.mem_range.2 (by omega))
    rwa [show 500 + (i - 500) = i by omega] at this
  · have := List.all_eq_true.1 go11 (i - 550) (List.mem_range.2 (by omega))
    rwa [show 550 + (i - 550) = i by omega] at this
  · have := List.all_eq_true.1 go12 (i - 600) (List.mem_range.2 (by omega))
    rwa [show 600 + (i - 600) = i by omega] at this
  · have := List.all_eq_true.1 go13 (i - 650) (List.mem_range.2 (by omega))
    rwa [show 650 + (i - 650) = i by omega] at this
  · have := List.all_eq_true.1 go14 (i - 700) (List.mem_range.2 (by omega))
    rwa [show 700 + (i - 700) = i by omega] at this
  · have := List.all_eq_true.1 go15 (i - 750) (List.mem_range.2 (by omega))
    rwa [show 750 + (i - 750) = i by omega] at this
  · have := List.all_eq_true.1 go16 (i - 800) (List.mem_range.2 (by omega))
    rwa [show 800 + (i - 800) = i by omega] at this
  · have := List.all_eq_true.1 go17 (i - 850) (List.mem_range.2 (by omega))
    rwa [show 850 + (i - 850) = i by omega] at this
  · have := List.all_eq_true.1 go18 (i - 900) (List.mem_range.2 (by omega))
    rwa [show 900 + (i - 900) = i by omega] at this
  · have := List.all_eq_true.1 go19 (i - 950) (List.mem_range.2 (by omega))
    rwa [show 950 + (i - 950) = i by omega] at this
theorem no_go : ∀ (i : Nat) (fn : Func), Tryz.prog.funcs[i]? = some fn → fn.goes = false := by
  intro i fn h
  have hi := (Array.getElem?_eq_some_iff.1 h).1
  rw [funcs_size] at hi
  have := go_all i hi
  unfold goB at this
  rw [h] at this
  simpa using this
theorem goes3 : Tryz.prog.goes 3 = false := by
  unfold Program.goes
  have h1 : ((Tryz.prog.closure 3).any fun g => (Tryz.prog.funcs[g]?).any Func.goes) = false := by
    rw [List.any_eq_false]
    intro g _
    cases hg : Tryz.prog.funcs[g]? with
    | none => simp
    | some fn => simp [no_go g fn hg]
  have h2 : Tryz.prog.funcs.any Func.goes = false := by
    rw [Array.any_eq_false]
    intro i hi
    rw [no_go i _ (Array.getElem?_eq_getElem hi)]
    decide
  rw [h1, h2]
  simp
theorem filter_none {p : Nat → Bool} : ∀ n, (∀ i, i < n → p i = false) → (List.range n).filter p = []
  | 0, _ => rfl
  | n + 1, h => by
    rw [List.range_succ, List.filter_append, filter_none n (fun i hi => h i (by omega))]
    simp [h n (by omega)]
theorem filter_one {p : Nat → Bool} {k : Nat} (hk : p k = true) : ∀ n, k < n → (∀ i, i < n → p i = true → i = k) → (List.range n).filter p = [k]
  | 0, h, _ => by omega
  | n + 1, h, hu => by
    rw [List.range_succ, List.filter_append]
    by_cases e : n = k
    · subst e
      rw [filter_none n (fun i hi => by
        cases hp : p i with
        | false => rfl
        | true => have := hu i (by omega) hp; omega)]
      simp [hk]
    · rw [filter_one hk n (by omega) (fun i hi => hu i (by omega))]
      have : p n = false := by
        cases hp : p n with
        | false => rfl
        | true => exact absurd (hu n (by omega) hp) e
      simp [this]
theorem nm_all : ∀ i, i < 985 → nmC i = true := by
  intro i hi
  have hk : i / 50 = 0 ∨ i / 50 = 1 ∨ i / 50 = 2 ∨ i / 50 = 3 ∨ i / 50 = 4 ∨ i / 50 = 5 ∨ i / 50 = 6 ∨ i / 50 = 7 ∨ i / 50 = 8 ∨ i / 50 = 9 ∨ i / 50 = 10 ∨ i / 50 = 11 ∨ i / 50 = 12 ∨ i / 50 = 13 ∨ i / 50 = 14 ∨ i / 50 = 15 ∨ i / 50 = 16 ∨ i / 50 = 17 ∨ i / 50 = 18 ∨ i / 50 = 19 := by omega
  rcases hk with h | h | h | h | h | h | h | h | h | h | h | h | h | h | h | h | h | h | h | h
  · have := List.all_eq_true.1 nm0 (i - 0) (List.mem_range.2 (by omega))
    rwa [show 0 + (i - 0) = i by omega] at this
  · have := List.all_eq_true.1 nm1 (i - 50) (List.mem_range.2 (by omega))
    rwa [show 50 + (i - 50) = i by omega] at this
  · have := List.all_eq_true.1 nm2 (i - 100) (List.mem_range.2 (by omega))
    rwa [show 100 + (i - 100) = i by omega] at this
  · have := List.all_eq_true.1 nm3 (i - 150) (List.mem_range.2 (by omega))
    rwa [show 150 + (i - 150) = i by omega] at this
  · have := List.all_eq_true.1 nm4 (i - 200) (List.mem_range.2 (by omega))
    rwa [show 200 + (i - 200) = i by omega] at this
  · have := List.all_eq_true.1 nm5 (i - 250) (List.mem_range.2 (by omega))
    rwa [show 250 + (i - 250) = i by omega] at this
  · have := List.all_eq_true.1 nm6 (i - 300) (List.mem_range.2 (by omega))
    rwa [show 300 + (i - 300) = i by omega] at this
  · have := List.all_eq_true.1 nm7 (i - 350) (List.mem_range.2 (by omega))
    rwa [show 350 + (i - 350) = i by omega] at this
  · have := List.all_eq_true.1 nm8 (i - 400) (List.mem_range.2 (by omega))
    rwa [show 400 + (i - 400) = i by omega] at this
  · have := List.all_eq_true.1 nm9 (i - 450) (List.mem_range.2 (by omega))
    rwa [show 450 + (i - 450) = i by omega] at this
  · have := List.all_eq_true.1 nm10 (i - 500) (List.mem_range.2 (by omega))
    rwa [show 500 + (i - 500) = i by omega] at this
  · have := List.all_eq_true.1 nm11 (i - 550) (List.mem_range.2 (by omega))
    rwa [show 550 + (i - 550) = i by omega] at this
  · have := List.all_eq_true.1 nm12 (i - 600) (List.mem_range.2 (by omega))
    rwa [show 600 + (i - 600) = i by omega] at this
  · have := List.all_eq_true.1 nm13 (i - 650) (List.mem_range.2 (by omega))
    rwa [show 650 + (i - 650) = i by omega] at this
  · have := List.all_eq_true.1 nm14 (i - 700) (List.mem_range.2 (by omega))
    rwa [show 700 + (i - 700) = i by omega] at this
  · have := List.all_eq_true.1 nm15 (i - 750) (List.mem_range.2 (by omega))
    rwa [show 750 + (i - 750) = i by omega] at this
  · have := List.all_eq_true.1 nm16 (i - 800) (List.mem_range.2 (by omega))
    rwa [show 800 + (i - 800) = i by omega] at this
  · have := List.all_eq_true.1 nm17 (i - 850) (List.mem_range.2 (by omega))
    rwa [show 850 + (i - 850) = i by omega] at this
  · have := List.all_eq_true.1 nm18 (i - 900) (List.mem_range.2 (by omega))
    rwa [show 900 + (i - 900) = i by omega] at this
  · have := List.all_eq_true.1 nm19 (i - 950) (List.mem_range.2 (by omega))
    rwa [show 950 + (i - 950) = i by omega] at this
theorem funcNamed_of {P : Program} {name : String} {k : Nat} (h : ((List.range P.funcs.size).filter fun i => (P.funcs[i]?).any (·.name == name)) = [k]) : P.funcNamed name = some k := by
  unfold Program.funcNamed
  rw [h]
theorem funcNamed3 : Tryz.prog.funcNamed "tether/tethertop.TopEchoes" = some 3 := by
  have h : (List.range Tryz.prog.funcs.size).filter nmB = [3] := by
    rw [funcs_size]
    refine filter_one (by kernel_rfl) 985 (by omega) (fun i hi hp => ?_)
    have := nm_all i hi
    unfold nmC at this
    rw [hp] at this
    simpa using this
  exact funcNamed_of h
theorem goesBy_of {c : OpenClaim} {P : Program} {f : FuncId} (h1 : c.start = .entering) (h2 : P.funcNamed c.func = some f) (h3 : P.goes f = false) : false = c.goesBy P := by
  unfold OpenClaim.goesBy Program.goesAt Program.goesFrom
  rw [h1, h2, Option.any_some, h3]
  rfl
theorem f_goes : false = Rows.topEchoesRow.goesBy Tryz.prog := goesBy_of rfl funcNamed3 goes3
theorem fine_all : (List.range 994).all (rowFine Tryz.prog) = true := by
  rw [List.all_eq_true]
  intro i hi
  have hi := List.mem_range.1 hi
  have hk : i / 50 = 0 ∨ i / 50 = 1 ∨ i / 50 = 2 ∨ i / 50 = 3 ∨ i / 50 = 4 ∨ i / 50 = 5 ∨ i / 50 = 6 ∨ i / 50 = 7 ∨ i / 50 = 8 ∨ i / 50 = 9 ∨ i / 50 = 10 ∨ i / 50 = 11 ∨ i / 50 = 12 ∨ i / 50 = 13 ∨ i / 50 = 14 ∨ i / 50 = 15 ∨ i / 50 = 16 ∨ i / 50 = 17 ∨ i / 50 = 18 ∨ i / 50 = 19 := by omega
  rcases hk with h | h | h | h | h | h | h | h | h | h | h | h | h | h | h | h | h | h | h | h
  · have := List.all_eq_true.1 fine0 (i - 0) (List.mem_range.2 (by omega))
    rwa [show 0 + (i - 0) = i by omega] at this
  · have := List.all_eq_true.1 fine1 (i - 50) (List.mem_range.2 (by omega))
    rwa [show 50 + (i - 50) = i by omega] at this
  · have := List.all_eq_true.1 fine2 (i - 100) (List.mem_range.2 (by omega))
    rwa [show 100 + (i - 100) = i by omega] at this
  · have := List.all_eq_true.1 fine3 (i - 150) (List.mem_range.2 (by omega))
    rwa [show 150 + (i - 150) = i by omega] at this
  · have := List.all_eq_true.1 fine4 (i - 200) (List.mem_range.2 (by omega))
    rwa [show 200 + (i - 200) = i by omega] at this
  · have := List.all_eq_true.1 fine5 (i - 250) (List.mem_range.2 (by omega))
    rwa [show 250 + (i - 250) = i by omega] at this
  · have := List.all_eq_true.1 fine6 (i - 300) (List.mem_range.2 (by omega))
    rwa [show 300 + (i - 300) = i by omega] at this
  · have := List.all_eq_true.1 fine7 (i - 350) (List.mem_range.2 (by omega))
    rwa [show 350 + (i - 350) = i by omega] at this
  · have := List.all_eq_true.1 fine8 (i - 400) (List.mem_range.2 (by omega))
    rwa [show 400 + (i - 400) = i by omega] at this
  · have := List.all_eq_true.1 fine9 (i - 450) (List.mem_range.2 (by omega))
    rwa [show 450 + (i - 450) = i by omega] at this
  · have := List.all_eq_true.1 fine10 (i - 500) (List.mem_range.2 (by omega))
    rwa [show 500 + (i - 500) = i by omega] at this
  · have := List.all_eq_true.1 fine11 (i - 550) (List.mem_range.2 (by omega))
    rwa [show 550 + (i - 550) = i by omega] at this
  · have := List.all_eq_true.1 fine12 (i - 600) (List.mem_range.2 (by omega))
    rwa [show 600 + (i - 600) = i by omega] at this
  · have := List.all_eq_true.1 fine13 (i - 650) (List.mem_range.2 (by omega))
    rwa [show 650 + (i - 650) = i by omega] at this
  · have := List.all_eq_true.1 fine14 (i - 700) (List.mem_range.2 (by omega))
    rwa [show 700 + (i - 700) = i by omega] at this
  · have := List.all_eq_true.1 fine15 (i - 750) (List.mem_range.2 (by omega))
    rwa [show 750 + (i - 750) = i by omega] at this
  · have := List.all_eq_true.1 fine16 (i - 800) (List.mem_range.2 (by omega))
    rwa [show 800 + (i - 800) = i by omega] at this
  · have := List.all_eq_true.1 fine17 (i - 850) (List.mem_range.2 (by omega))
    rwa [show 850 + (i - 850) = i by omega] at this
  · have := List.all_eq_true.1 fine18 (i - 900) (List.mem_range.2 (by omega))
    rwa [show 900 + (i - 900) = i by omega] at this
  · have := List.all_eq_true.1 fine19 (i - 950) (List.mem_range.2 (by omega))
    rwa [show 950 + (i - 950) = i by omega] at this
theorem lay_globals : (Tryz.prog.globals.all fun g => decide (g.type < 994)) = true := by kernel_rfl
theorem lay_all : ∀ i, i < 985 → layB i = true := by
  intro i hi
  have hk : i / 50 = 0 ∨ i / 50 = 1 ∨ i / 50 = 2 ∨ i / 50 = 3 ∨ i / 50 = 4 ∨ i / 50 = 5 ∨ i / 50 = 6 ∨ i / 50 = 7 ∨ i / 50 = 8 ∨ i / 50 = 9 ∨ i / 50 = 10 ∨ i / 50 = 11 ∨ i / 50 = 12 ∨ i / 50 = 13 ∨ i / 50 = 14 ∨ i / 50 = 15 ∨ i / 50 = 16 ∨ i / 50 = 17 ∨ i / 50 = 18 ∨ i / 50 = 19 := by omega
  rcases hk with h | h | h | h | h | h | h | h | h | h | h | h | h | h | h | h | h | h | h | h
  · have := List.all_eq_true.1 lay0 (i - 0) (List.mem_range.2 (by omega))
    rwa [show 0 + (i - 0) = i by omega] at this
  · have := List.all_eq_true.1 lay1 (i - 50) (List.mem_range.2 (by omega))
    rwa [show 50 + (i - 50) = i by omega] at this
  · have := List.all_eq_true.1 lay2 (i - 100) (List.mem_range.2 (by omega))
    rwa [show 100 + (i - 100) = i by omega] at this
  · have := List.all_eq_true.1 lay3 (i - 150) (List.mem_range.2 (by omega))
    rwa [show 150 + (i - 150) = i by omega] at this
  · have := List.all_eq_true.1 lay4 (i - 200) (List.mem_range.2 (by omega))
    rwa [show 200 + (i - 200) = i by omega] at this
  · have := List.all_eq_true.1 lay5 (i - 250) (List.mem_range.2 (by omega))
    rwa [show 250 + (i - 250) = i by omega] at this
  · have := List.all_eq_true.1 lay6 (i - 300) (List.mem_range.2 (by omega))
    rwa [show 300 + (i - 300) = i by omega] at this
  · have := List.all_eq_true.1 lay7 (i - 350) (List.mem_range.2 (by omega))
    rwa [show 350 + (i - 350) = i by omega] at this
  · have := List.all_eq_true.1 lay8 (i - 400) (List.mem_range.2 (by omega))
    rwa [show 400 + (i - 400) = i by omega] at this
  · have := List.all_eq_true.1 lay9 (i - 450) (List.mem_range.2 (by omega))
    rwa [show 450 + (i - 450) = i by omega] at this
  · have := List.all_eq_true.1 lay10 (i - 500) (List.mem_range.2 (by omega))
    rwa [show 500 + (i - 500) = i by omega] at this
  · have := List.all_eq_true.1 lay11 (i - 550) (List.mem_range.2 (by omega))
    rwa [show 550 + (i - 550) = i by omega] at this
  · have := List.all_eq_true.1 lay12 (i - 600) (List.mem_range.2 (by omega))
    rwa [show 600 + (i - 600) = i by omega] at this
  · have := List.all_eq_true.1 lay13 (i - 650) (List.mem_range.2 (by omega))
    rwa [show 650 + (i - 650) = i by omega] at this
  · have := List.all_eq_true.1 lay14 (i - 700) (List.mem_range.2 (by omega))
    rwa [show 700 + (i - 700) = i by omega] at this
  · have := List.all_eq_true.1 lay15 (i - 750) (List.mem_range.2 (by omega))
    rwa [show 750 + (i - 750) = i by omega] at this
  · have := List.all_eq_true.1 lay16 (i - 800) (List.mem_range.2 (by omega))
    rwa [show 800 + (i - 800) = i by omega] at this
  · have := List.all_eq_true.1 lay17 (i - 850) (List.mem_range.2 (by omega))
    rwa [show 850 + (i - 850) = i by omega] at this
  · have := List.all_eq_true.1 lay18 (i - 900) (List.mem_range.2 (by omega))
    rwa [show 900 + (i - 900) = i by omega] at this
  · have := List.all_eq_true.1 lay19 (i - 950) (List.mem_range.2 (by omega))
    rwa [show 950 + (i - 950) = i by omega] at this
theorem lay_funcs : (Tryz.prog.funcs.all fun f => f.params.all fun t => decide (t < 994)) = true := by
  rw [Array.all_eq_true]
  intro i hi
  have h1 := lay_all i (by rw [← funcs_size]; exact hi)
  unfold layB at h1
  rw [Array.getElem?_eq_getElem hi] at h1
  exact h1
theorem f_laidOut : laidOutB Tryz.prog = true := by
  unfold laidOutB
  rw [Tryz.types_size, fine_all, lay_globals, lay_funcs, Bool.and_self, Bool.and_self]
end Go.Proofs.YtoklobcagaolmaaGreatDoor
