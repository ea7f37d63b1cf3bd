/- THE ROW's FACTS that go over the closure. No condition. -/
import Derived.Test.YtekdmgmdhhkaoaaGreatDoorFb
import Derived.SevenTiedAt

namespace Go.Proofs.YtekdmgmdhhkaoaaGreatDoor
set_option maxRecDepth 1000000
/-! ## the row's facts that go over the closure -/
theorem inpl_all : clL.filterMap selF = ["internal/reflectlite.TypeOf", "internal/reflectlite.ValueOf", "(internal/reflectlite.Value).Type", "(internal/reflectlite.Value).IsNil", "(internal/reflectlite.Value).Elem", "(internal/reflectlite.Value).Set", "internal/bytealg.CountString", "internal/bytealg.IndexByteString", "internal/bytealg.IndexString", "internal/abi.NoEscape", "math.Float64frombits"] := by
  unfold clL
  rw [List.filterMap_append, List.filterMap_append, List.filterMap_append, List.filterMap_append, List.filterMap_append, List.filterMap_append, List.filterMap_append, List.filterMap_append, List.filterMap_append, List.filterMap_append, List.filterMap_append, List.filterMap_append, List.filterMap_append, List.filterMap_append, List.filterMap_append, List.filterMap_append, List.filterMap_append, inpl0, inpl1, inpl2, inpl3, inpl4, inpl5, inpl6, inpl7, inpl8, inpl9, inpl10, inpl11, inpl12, inpl13, inpl14, inpl15, inpl16, inpl17]
  rfl
theorem glob_all : clL.flatMap globF = [1, 2, 7, 8, 6, 6, 6, 4, 5, 9, 10, 11, 0, 0, 0, 0, 0, 0] := by
  unfold clL
  rw [List.flatMap_append, List.flatMap_append, List.flatMap_append, List.flatMap_append, List.flatMap_append, List.flatMap_append, List.flatMap_append, List.flatMap_append, List.flatMap_append, List.flatMap_append, List.flatMap_append, List.flatMap_append, List.flatMap_append, List.flatMap_append, List.flatMap_append, List.flatMap_append, List.flatMap_append, glob0, glob1, glob2, glob3, glob4, glob5, glob6, glob7, glob8, glob9, glob10, glob11, glob12, glob13, glob14, glob15, glob16, glob17]
  rfl
theorem reads_all : clL.filterMap readsF = ["internal/bytealg.MaxLen"] := by
  unfold clL
  rw [List.filterMap_append, List.filterMap_append, List.filterMap_append, List.filterMap_append, List.filterMap_append, List.filterMap_append, List.filterMap_append, List.filterMap_append, List.filterMap_append, List.filterMap_append, List.filterMap_append, List.filterMap_append, List.filterMap_append, List.filterMap_append, List.filterMap_append, List.filterMap_append, List.filterMap_append, reads0, reads1, reads2, reads3, reads4, reads5, reads6, reads7, reads8, reads9, reads10, reads11, reads12, reads13, reads14, reads15, reads16, reads17]
  rfl
theorem inpl_eq : (Rows.topTiresRow.inPlace == ["internal/reflectlite.TypeOf", "internal/reflectlite.ValueOf", "(internal/reflectlite.Value).Type", "(internal/reflectlite.Value).IsNil", "(internal/reflectlite.Value).Elem", "(internal/reflectlite.Value).Set", "internal/bytealg.CountString", "internal/bytealg.IndexByteString", "internal/bytealg.IndexString", "internal/abi.NoEscape", "math.Float64frombits"]) = true := by kernel_rfl
theorem f_inPlace : (Rows.topTiresRow.inPlace == Tryz.prog.inPlace 3) = true := by
  have e : Tryz.prog.inPlace 3 = clL.filterMap selF := by unfold Program.inPlace; rw [closure3]; rfl
  rw [e, inpl_all]
  exact inpl_eq
theorem vars_eq : (Rows.topTiresRow.named == ((([1, 2, 7, 8, 6, 6, 6, 4, 5, 9, 10, 11, 0, 0, 0, 0, 0, 0] : List Nat).eraseDups).filterMap (fun g => (Tryz.prog.globals[g]?).map (·.name)) ++ ["internal/bytealg.MaxLen"]).eraseDups) = true := by kernel_rfl
theorem f_vars : (Rows.topTiresRow.named == Tryz.prog.varsNamed 3) = true := by
  have e : Tryz.prog.varsNamed 3 = (((clL.flatMap globF).eraseDups).filterMap (fun g => (Tryz.prog.globals[g]?).map (·.name)) ++ clL.filterMap readsF).eraseDups := by unfold Program.varsNamed; rw [closure3]; rfl
  rw [e, glob_all, reads_all]
  exact vars_eq
theorem unf_one : unfF 35 = true := by kernel_rfl
theorem unf_in : clL.contains 35 = true := by kernel_rfl
theorem unf3 : Tryz.prog.unfollowed 3 = true := by
  have e : Tryz.prog.unfollowed 3 = clL.any unfF := by unfold Program.unfollowed; rw [closure3]; rfl
  rw [e]
  exact List.any_eq_true.2 ⟨35, List.contains_iff_mem.1 unf_in, unf_one⟩
theorem f_unfollowed : (Rows.topTiresRow.unfollowed == Tryz.prog.unfollowed 3) = true := by rw [unf3]; rfl
theorem f_recurses : (Rows.topTiresRow.recurses == Tryz.prog.recurses 3) = true := by
  have e : Tryz.prog.recurses 3 = true := by unfold Program.recurses; rw [unf3]; rfl
  rw [e]; rfl
theorem go_all : ∀ i, i < 807 → goB i = true := by
  intro i hi
  have hk : i / 50 = 0 ∨ i / 50 = 1 ∨ i / 50 = 2 ∨ i / 50 = 3 ∨ i / 50 = 4 ∨ i / 50 = 5 ∨ i / 50 = 6 ∨ i / 50 = 7 ∨ i / 50 = 8 ∨ i / 50 = 9 ∨ i / 50 = 10 ∨ i / 50 = 11 ∨ i / 50 = 12 ∨ i / 50 = 13 ∨ i / 50 = 14 ∨ i / 50 = 15 ∨ i / 50 = 16 := by omega
  rcases hk with h | h | h | h | h | h | h | h | h | h | h | h | h | h | h | h | h
  · have := List.all_eq_true.1 go0 (i - 0) (List.mem_range.2 (by omega))
    rwa [show 0 + (i - 0) = i by omega] at this
  · have := List.all_eq_true.1 go1 (i - 50) (List.mem_range.2 (by omega))
    rwa [show 50 + (i - 50) = i by omega] at this
  · have := List.all_eq_true.1 go2 (i - 100) (List.mem_range.2 (by omega))
    rwa [show 100 + (i - 100) = i by omega] at this
  · have := List.all_eq_true.1 go3 (i - 150) (List.mem_range.2 (by omega))
    rwa [show 150 + (i - 150) = i by omega] at this
  · have := List.all_eq_true.1 go4 (i - 200) (List.mem_range.2 (by omega))
    rwa [show 200 + (i - 200) = i by omega] at this
  · have := List.all_eq_true.1 go5 (i - 250) (List.mem_range.2 (by omega))
    rwa [show 250 + (i - 250) = i by omega] at this
  · have := List.all_eq_true.1 go6 (i - 300) (List.mem_range.2 (by omega))
    rwa [show 300 + (i - 300) = i by omega] at this
  · have := List.all_eq_true.1 go7 (i - 350) (List.mem_range.2 (by omega))
    rwa [show 350 + (i - 350) = i by omega] at this
  · have := List.all_eq_true.1 go8 (i - 400) (List.mem_range.2 (by omega))
    rwa [show 400 + (i - 400) = i by omega] at this
  · have := List.all_eq_true.1 go9 (i - 450) (List.mem_range.2 (by omega))
    rwa [show 450 + (i - 450) = i by omega] at this
  · have := List.all_eq_true.1 go10 (i - 500) (List.mem_range.2 (by omega))
    rwa [show 500 + (i - 500) = i by omega] at this
  · have := List.all_eq_true.1 go11 (i - 550) (List.mem_range.2 (by omega))
    rwa [show 550 + (i - 550) = i by omega] at this
  · have := List.all_eq_true.1 go12 (i - 600) (List.mem_range.2 (by omega))
    rwa [show 600 + (i - 600) = i by omega] at this
  · have := List.all_eq_true.1 go13 (i - 650) (List.mem_range.2 (by omega))
    rwa [show 650 + (i - 650) = i by omega] at this
  · have := List.all_eq_true.1 go14 (i - 700) (List.mem_range.2 (by omega))
    rwa [show 700 + (i - 700) = i by omega] at this
  · have := List.all_eq_true.1 go15 (i - 750) (List.mem_range.2 (by omega))
    rwa [show 750 + (i - 750) = i by omega] at this
  · have := List.all_eq_true.1 go16 (i - 800) (List.mem_range.2 (by omega))
    rwa [show 800 + (i - 800) = i by omega] at this
theorem no_go : ∀ (i : Nat) (fn : Func), Tryz.prog.funcs[i]? = some fn → fn.goes = false := by
  intro i fn h
  have hi := (Array.getElem?_eq_some_iff.1 h).1
  rw [funcs_size] at hi
  have := go_all i hi
  unfold goB at this
  rw [h] at this
  simpa using this
theorem goes3 : Tryz.prog.goes 3 = false := by
  unfold Program.goes
  have h1 : ((Tryz.prog.closure 3).any fun g => (Tryz.prog.funcs[g]?).any Func.goes) = false := by
    rw [List.any_eq_false]
    intro g _
    cases hg : Tryz.prog.funcs[g]? with
    | none => simp
    | some fn => simp [no_go g fn hg]
  have h2 : Tryz.prog.funcs.any Func.goes = false := by
    rw [Array.any_eq_false]
    intro i hi
    rw [no_go i _ (Array.getElem?_eq_getElem hi)]
    decide
  rw [h1, h2]
  simp
theorem filter_none {p : Nat → Bool} : ∀ n, (∀ i, i < n → p i = false) → (List.range n).filter p = []
  | 0, _ => rfl
  | n + 1, h => by
    rw [List.range_succ, List.filter_append, filter_none n (fun i hi => h i (by omega))]
    simp [h n (by omega)]
theorem filter_one {p : Nat → Bool} {k : Nat} (hk : p k = true) : ∀ n, k < n → (∀ i, i < n → p i = true → i = k) → (List.range n).filter p = [k]
  | 0, h, _ => by omega
  | n + 1, h, hu => by
    rw [List.range_succ, List.filter_append]
    by_cases e : n = k
    · subst e
      rw [filter_none n (fun i hi => by
        cases hp : p i with
        | false => rfl
        | true => have := hu i (by omega) hp; omega)]
      simp [hk]
    · rw [filter_one hk n (by omega) (fun i hi => hu i (by omega))]
      have : p n = false := by
        cases hp : p n with
        | false => rfl
        | true => exact absurd (hu n (by omega) hp) e
      simp [this]
theorem nm_all : ∀ i, i < 807 → nmC i = true := by
  intro i hi
  have hk : i / 50 = 0 ∨ i / 50 = 1 ∨ i / 50 = 2 ∨ i / 50 = 3 ∨ i / 50 = 4 ∨ i / 50 = 5 ∨ i / 50 = 6 ∨ i / 50 = 7 ∨ i / 50 = 8 ∨ i / 50 = 9 ∨ i / 50 = 10 ∨ i / 50 = 11 ∨ i / 50 = 12 ∨ i / 50 = 13 ∨ i / 50 = 14 ∨ i / 50 = 15 ∨ i / 50 = 16 := by omega
  rcases hk with h | h | h | h | h | h | h | h | h | h | h | h | h | h | h | h | h
  · have := List.all_eq_true.1 nm0 (i - 0) (List.mem_range.2 (by omega))
    rwa [show 0 + (i - 0) = i by omega] at this
  · have := List.all_eq_true.1 nm1 (i - 50) (List.mem_range.2 (by omega))
    rwa [show 50 + (i - 50) = i by omega] at this
  · have := List.all_eq_true.1 nm2 (i - 100) (List.mem_range.2 (by omega))
    rwa [show 100 + (i - 100) = i by omega] at this
  · have := List.all_eq_true.1 nm3 (i - 150) (List.mem_range.2 (by omega))
    rwa [show 150 + (i - 150) = i by omega] at this
  · have := List.all_eq_true.1 nm4 (i - 200) (List.mem_range.2 (by omega))
    rwa [show 200 + (i - 200) = i by omega] at this
  · have := List.all_eq_true.1 nm5 (i - 250) (List.mem_range.2 (by omega))
    rwa [show 250 + (i - 250) = i by omega] at this
  · have := List.all_eq_true.1 nm6 (i - 300) (List.mem_range.2 (by omega))
    rwa [show 300 + (i - 300) = i by omega] at this
  · have := List.all_eq_true.1 nm7 (i - 350) (List.mem_range.2 (by omega))
    rwa [show 350 + (i - 350) = i by omega] at this
  · have := List.all_eq_true.1 nm8 (i - 400) (List.mem_range.2 (by omega))
    rwa [show 400 + (i - 400) = i by omega] at this
  · have := List.all_eq_true.1 nm9 (i - 450) (List.mem_range.2 (by omega))
    rwa [show 450 + (i - 450) = i by omega] at this
  · have := List.all_eq_true.1 nm10 (i - 500) (List.mem_range.2 (by omega))
    rwa [show 500 + (i - 500) = i by omega] at this
  · have := List.all_eq_true.1 nm11 (i - 550) (List.mem_range.2 (by omega))
    rwa [show 550 + (i - 550) = i by omega] at this
  · have := List.all_eq_true.1 nm12 (i - 600) (List.mem_range.2 (by omega))
    rwa [show 600 + (i - 600) = i by omega] at this
  · have := List.all_eq_true.1 nm13 (i - 650) (List.mem_range.2 (by omega))
    rwa [show 650 + (i - 650) = i by omega] at this
  · have := List.all_eq_true.1 nm14 (i - 700) (List.mem_range.2 (by omega))
    rwa [show 700 + (i - 700) = i by omega] at this
  · have := List.all_eq_true.1 nm15 (i - 750) (List.mem_range.2 (by omega))
    rwa [show 750 + (i - 750) = i by omega] at this
  · have := List.all_eq_true.1 nm16 (i - 800) (List.mem_range.2 (by omega))
    rwa [show 800 + (i - 800) = i by omega] at this
theorem funcNamed_of {P : Program} {name : String} {k : Nat} (h : ((List.range P.funcs.size).filter fun i => (P.funcs[i]?).any (·.name == name)) = [k]) : P.funcNamed name = some k := by
  unfold Program.funcNamed
  rw [h]
theorem funcNamed3 : Tryz.prog.funcNamed "tether/tethertop.TopTires" = some 3 := by
  have h : (List.range Tryz.prog.funcs.size).filter nmB = [3] := by
    rw [funcs_size]
    refine filter_one (by kernel_rfl) 807 (by omega) (fun i hi hp => ?_)
    have := nm_all i hi
    unfold nmC at this
    rw [hp] at this
    simpa using this
  exact funcNamed_of h
theorem goesBy_of {c : OpenClaim} {P : Program} {f : FuncId} (h1 : c.start = .entering) (h2 : P.funcNamed c.func = some f) (h3 : P.goes f = false) : false = c.goesBy P := by
  unfold OpenClaim.goesBy Program.goesAt Program.goesFrom
  rw [h1, h2, Option.any_some, h3]
  rfl
theorem f_goes : false = Rows.topTiresRow.goesBy Tryz.prog := goesBy_of rfl funcNamed3 goes3
theorem fine_all : (List.range 849).all (rowFine Tryz.prog) = true := by
  rw [List.all_eq_true]
  intro i hi
  have hi := List.mem_range.1 hi
  have hk : i / 50 = 0 ∨ i / 50 = 1 ∨ i / 50 = 2 ∨ i / 50 = 3 ∨ i / 50 = 4 ∨ i / 50 = 5 ∨ i / 50 = 6 ∨ i / 50 = 7 ∨ i / 50 = 8 ∨ i / 50 = 9 ∨ i / 50 = 10 ∨ i / 50 = 11 ∨ i / 50 = 12 ∨ i / 50 = 13 ∨ i / 50 = 14 ∨ i / 50 = 15 ∨ i / 50 = 16 := by omega
  rcases hk with h | h | h | h | h | h | h | h | h | h | h | h | h | h | h | h | h
  · have := List.all_eq_true.1 fine0 (i - 0) (List.mem_range.2 (by omega))
    rwa [show 0 + (i - 0) = i by omega] at this
  · have := List.all_eq_true.1 fine1 (i - 50) (List.mem_range.2 (by omega))
    rwa [show 50 + (i - 50) = i by omega] at this
  · have := List.all_eq_true.1 fine2 (i - 100) (List.mem_range.2 (by omega))
    rwa [show 100 + (i - 100) = i by omega] at this
  · have := List.all_eq_true.1 fine3 (i - 150) (List.mem_range.2 (by omega))
    rwa [show 150 + (i - 150) = i by omega] at this
  · have := List.all_eq_true.1 fine4 (i - 200) (List.mem_range.2 (by omega))
    rwa [show 200 + (i - 200) = i by omega] at this
  · have := List.all_eq_true.1 fine5 (i - 250) (List.mem_range.2 (by omega))
    rwa [show 250 + (i - 250) = i by omega] at this
  · have := List.all_eq_true.1 fine6 (i - 300) (List.mem_range.2 (by omega))
    rwa [show 300 + (i - 300) = i by omega] at this
  · have := List.all_eq_true.1 fine7 (i - 350) (List.mem_range.2 (by omega))
    rwa [show 350 + (i - 350) = i by omega] at this
  · have := List.all_eq_true.1 fine8 (i - 400) (List.mem_range.2 (by omega))
    rwa [show 400 + (i - 400) = i by omega] at this
  · have := List.all_eq_true.1 fine9 (i - 450) (List.mem_range.2 (by omega))
    rwa [show 450 + (i - 450) = i by omega] at this
  · have := List.all_eq_true.1 fine10 (i - 500) (List.mem_range.2 (by omega))
    rwa [show 500 + (i - 500) = i by omega] at this
  · have := List.all_eq_true.1 fine11 (i - 550) (List.mem_range.2 (by omega))
    rwa [show 550 + (i - 550) = i by omega] at this
  · have := List.all_eq_true.1 fine12 (i - 600) (List.mem_range.2 (by omega))
    rwa [show 600 + (i - 600) = i by omega] at this
  · have := List.all_eq_true.1 fine13 (i - 650) (List.mem_range.2 (by omega))
    rwa [show 650 + (i - 650) = i by omega] at this
  · have := List.all_eq_true.1 fine14 (i - 700) (List.mem_range.2 (by omega))
    rwa [show 700 + (i - 700) = i by omega] at this
  · have := List.all_eq_true.1 fine15 (i - 750) (List.mem_range.2 (by omega))
    rwa [show 750 + (i - 750) = i by omega] at this
  · have := List.all_eq_true.1 fine16 (i - 800) (List.mem_range.2 (by omega))
    rwa [show 800 + (i - 800) = i by omega] at this
theorem lay_globals : (Tryz.prog.globals.all fun g => decide (g.type < 849)) = true := by kernel_rfl
theorem lay_all : ∀ i, i < 807 → layB i = true := by
  intro i hi
  have hk : i / 50 = 0 ∨ i / 50 = 1 ∨ i / 50 = 2 ∨ i / 50 = 3 ∨ i / 50 = 4 ∨ i / 50 = 5 ∨ i / 50 = 6 ∨ i / 50 = 7 ∨ i / 50 = 8 ∨ i / 50 = 9 ∨ i / 50 = 10 ∨ i / 50 = 11 ∨ i / 50 = 12 ∨ i / 50 = 13 ∨ i / 50 = 14 ∨ i / 50 = 15 ∨ i / 50 = 16 := by omega
  rcases hk with h | h | h | h | h | h | h | h | h | h | h | h | h | h | h | h | h
  · have := List.all_eq_true.1 lay0 (i - 0) (List.mem_range.2 (by omega))
    rwa [show 0 + (i - 0) = i by omega] at this
  · have := List.all_eq_true.1 lay1 (i - 50) (List.mem_range.2 (by omega))
    rwa [show 50 + (i - 50) = i by omega] at this
  · have := List.all_eq_true.1 lay2 (i - 100) (List.mem_range.2 (by omega))
    rwa [show 100 + (i - 100) = i by omega] at this
  · have := List.all_eq_true.1 lay3 (i - 150) (List.mem_range.2 (by omega))
    rwa [show 150 + (i - 150) = i by omega] at this
  · have := List.all_eq_true.1 lay4 (i - 200) (List.mem_range.2 (by omega))
    rwa [show 200 + (i - 200) = i by omega] at this
  · have := List.all_eq_true.1 lay5 (i - 250) (List.mem_range.2 (by omega))
    rwa [show 250 + (i - 250) = i by omega] at this
  · have := List.all_eq_true.1 lay6 (i - 300) (List.mem_range.2 (by omega))
    rwa [show 300 + (i - 300) = i by omega] at this
  · have := List.all_eq_true.1 lay7 (i - 350) (List.mem_range.2 (by omega))
    rwa [show 350 + (i - 350) = i by omega] at this
  · have := List.all_eq_true.1 lay8 (i - 400) (List.mem_range.2 (by omega))
    rwa [show 400 + (i - 400) = i by omega] at this
  · have := List.all_eq_true.1 lay9 (i - 450) (List.mem_range.2 (by omega))
    rwa [show 450 + (i - 450) = i by omega] at this
  · have := List.all_eq_true.1 lay10 (i - 500) (List.mem_range.2 (by omega))
    rwa [show 500 + (i - 500) = i by omega] at this
  · have := List.all_eq_true.1 lay11 (i - 550) (List.mem_range.2 (by omega))
    rwa [show 550 + (i - 550) = i by omega] at this
  · have := List.all_eq_true.1 lay12 (i - 600) (List.mem_range.2 (by omega))
    rwa [show 600 + (i - 600) = i by omega] at this
  · have := List.all_eq_true.1 lay13 (i - 650) (List.mem_range.2 (by omega))
    rwa [show 650 + (i - 650) = i by omega] at this
  · have := List.all_eq_true.1 lay14 (i - 700) (List.mem_range.2 (by omega))
    rwa [show 700 + (i - 700) = i by omega] at this
  · have := List.all_eq_true.1 lay15 (i - 750) (List.mem_range.2 (by omega))
    rwa [show 750 + (i - 750) = i by omega] at this
  · have := List.all_eq_true.1 lay16 (i - 800) (List.mem_range.2 (by omega))
    rwa [show 800 + (i - 800) = i by omega] at this
theorem lay_funcs : (Tryz.prog.funcs.all fun f => f.params.all fun t => decide (t < 849)) = true := by
  rw [Array.all_eq_true]
  intro i hi
  have h1 := lay_all i (by rw [← funcs_size]; exact hi)
  unfold layB at h1
  rw [Array.getElem?_eq_getElem hi] at h1
  exact h1
theorem f_laidOut : laidOutB Tryz.prog = true := by
  unfold laidOutB
  rw [Tryz.types_size, fine_all, lay_globals, lay_funcs, Bool.and_self, Bool.and_self]
end Go.Proofs.YtekdmgmdhhkaoaaGreatDoor

namespace Go.Proofs.YtekdmgmdhhkaoaaGreatDoor
set_option maxRecDepth 1000000
theorem j0 : (OpenClaim.wf (OpenSpec.ofChange Rows.topTiresSpec) Rows.topTiresRow) = true := by kernel_rfl
theorem j1 : (laidOutB Tryz.prog) = true := f_laidOut
theorem j2 : (mapsRowed Tryz.prog) = true := by kernel_rfl
theorem j3 : (Tryz.f3.params.all (fun x => Tryz.prog.readableRec x)) = true := by kernel_rfl
theorem j4 : (namedTie Tryz.prog Rows.topTiresRow.named Rows.topTiresSpec.vars) = true := by kernel_rfl
theorem j5 : ((Rows.topTiresRow.stops == [])) = true := by kernel_rfl
theorem j6 : ((Tryz.prog.stops == [])) = true := by kernel_rfl
theorem j7 : ((Rows.topTiresRow.knobs == [])) = true := by kernel_rfl
theorem j8 : ((Tryz.prog.stopKnobs == [])) = true := by kernel_rfl
theorem j9 : ((Rows.topTiresRow.inPlace == Tryz.prog.inPlace 3)) = true := f_inPlace
theorem j10 : ((Rows.topTiresRow.unfollowed == Tryz.prog.unfollowed 3)) = true := f_unfollowed
theorem j11 : ((Rows.topTiresRow.recurses == Tryz.prog.recurses 3)) = true := f_recurses
theorem j12 : ((Rows.topTiresRow.named == Tryz.prog.varsNamed 3)) = true := f_vars
theorem j13 : ((Rows.topTiresRow.maps == (Tryz.f3.params.toList ++ DataSpec.varTypes Tryz.prog Rows.topTiresSpec.plain).any (fun x => Tryz.prog.mapsRec x))) = true := by kernel_rfl
theorem j14 : ((Rows.topTiresRow.ifaces == (Tryz.f3.params.toList ++ DataSpec.varTypes Tryz.prog Rows.topTiresSpec.plain).any (fun x => Tryz.prog.ifacesRec x))) = true := by kernel_rfl
theorem j15 : ((Rows.topTiresRow.mapsOut == Tryz.prog.mapsAmong Tryz.f3.resultTypes.toList)) = true := by kernel_rfl
theorem j16 : ((Rows.topTiresRow.loops == (Tryz.f3.params.toList ++ DataSpec.varTypes Tryz.prog Rows.topTiresSpec.plain).any (fun x => Tryz.prog.loopsFrom x))) = true := by kernel_rfl
theorem j17 : ((Rows.topTiresRow.wideKeys == (Tryz.f3.params.toList ++ DataSpec.varTypes Tryz.prog Rows.topTiresSpec.plain ++ Tryz.f3.resultTypes.toList).any (fun x => Tryz.prog.wideKeysFrom x))) = true := by kernel_rfl
theorem j18 : (Rows.topTiresSpec.vars.all (fun x => Tryz.prog.varReadable x)) = true := by kernel_rfl
theorem j19 : (Tryz.f3.resultTypes.all (fun t => Tryz.prog.readableRec t && decide (t < Tryz.prog.types.size))) = true := by kernel_rfl
theorem j20 : ((Rows.topTiresRow.ifacesOut == Tryz.f3.resultTypes.toList.any (fun x => Tryz.prog.ifacesRec x))) = true := by kernel_rfl
theorem j21 : ((Rows.topTiresRow.loopsOut == Tryz.f3.resultTypes.toList.any (fun x => Tryz.prog.loopsFrom x))) = true := by kernel_rfl
theorem j22 : ((Rows.topTiresRow.plainKeys == Tryz.prog.plainKeys)) = true := by kernel_rfl
theorem j23 : (Rows.topTiresRow.shortTexts.isNone) = true := by kernel_rfl
theorem j24 : (Tryz.prog.stopsHeard) = true := by kernel_rfl
theorem j25 : (Tryz.prog.mayEnter) = true := by kernel_rfl
theorem j26 : ((Rows.topTiresRow.lifted == Tryz.prog.liftsFinal)) = true := by kernel_rfl
theorem j27 : ((Tryz.prog.make == some Rows.topTiresRow.make)) = true := by kernel_rfl
theorem j28 : ((Rows.topTiresRow.kinds == if Rows.topTiresRow.domain.isEmpty = true then [] else List.map (fun t => match Tryz.prog.underlying t with | some (TypeDesc.int k) => some k | _ => none) Tryz.f3.params.toList)) = true := by kernel_rfl
theorem j29 : ((Rows.topTiresRow.pinned == Rows.topTiresRow.pinnedBy)) = true := by kernel_rfl
theorem j30 : ((Rows.topTiresRow.veiled == (Tryz.f3.params.toList ++ DataSpec.varTypes Tryz.prog Rows.topTiresSpec.plain ++ Tryz.f3.resultTypes.toList).any (fun x => Tryz.prog.veiledRec x))) = true := by kernel_rfl
theorem j31 : (Rows.topTiresRow.veiledFits Tryz.prog Tryz.f3.params.toList (Tryz.f3.params.toList ++ DataSpec.varTypes Tryz.prog Rows.topTiresSpec.plain ++ Tryz.f3.resultTypes.toList)) = true := by kernel_rfl
theorem joined_of {P : Program} {f : FuncId} {fn : Func} {s : ChangeSpec} {c : OpenClaim}
    (h0 : (OpenClaim.wf (OpenSpec.ofChange s)  c) = true)
    (h1 : (laidOutB P) = true)
    (h2 : (mapsRowed P) = true)
    (h3 : (fn.params.all (fun x => P.readableRec x)) = true)
    (h4 : (namedTie P c.named s.vars) = true)
    (h5 : ((c.stops == [])) = true)
    (h6 : ((P.stops == [])) = true)
    (h7 : ((c.knobs == [])) = true)
    (h8 : ((P.stopKnobs == [])) = true)
    (h9 : ((c.inPlace == P.inPlace f)) = true)
    (h10 : ((c.unfollowed == P.unfollowed f)) = true)
    (h11 : ((c.recurses == P.recurses f)) = true)
    (h12 : ((c.named == P.varsNamed f)) = true)
    (h13 : ((c.maps == (fn.params.toList ++ DataSpec.varTypes P s.plain).any (fun x => P.mapsRec x))) = true)
    (h14 : ((c.ifaces == (fn.params.toList ++ DataSpec.varTypes P s.plain).any (fun x => P.ifacesRec x))) = true)
    (h15 : ((c.mapsOut == P.mapsAmong fn.resultTypes.toList)) = true)
    (h16 : ((c.loops == (fn.params.toList ++ DataSpec.varTypes P s.plain).any (fun x => P.loopsFrom x))) = true)
    (h17 : ((c.wideKeys == (fn.params.toList ++ DataSpec.varTypes P s.plain ++ fn.resultTypes.toList).any (fun x => P.wideKeysFrom x))) = true)
    (h18 : (s.vars.all (fun x => P.varReadable x)) = true)
    (h19 : (fn.resultTypes.all (fun t => P.readableRec t && decide (t < P.types.size))) = true)
    (h20 : ((c.ifacesOut == fn.resultTypes.toList.any (fun x => P.ifacesRec x))) = true)
    (h21 : ((c.loopsOut == fn.resultTypes.toList.any (fun x => P.loopsFrom x))) = true)
    (h22 : ((c.plainKeys == P.plainKeys)) = true)
    (h23 : (c.shortTexts.isNone) = true)
    (h24 : (P.stopsHeard) = true)
    (h25 : (P.mayEnter) = true)
    (h26 : ((c.lifted == P.liftsFinal)) = true)
    (h27 : ((P.make == some c.make)) = true)
    (h28 : ((c.kinds == if c.domain.isEmpty = true then [] else List.map (fun t => match P.underlying t with | some (TypeDesc.int k) => some k | _ => none) fn.params.toList)) = true)
    (h29 : ((c.pinned == c.pinnedBy)) = true)
    (h30 : ((c.veiled == (fn.params.toList ++ DataSpec.varTypes P s.plain ++ fn.resultTypes.toList).any (fun x => P.veiledRec x))) = true)
    (h31 : (c.veiledFits P fn.params.toList (fn.params.toList ++ DataSpec.varTypes P s.plain ++ fn.resultTypes.toList)) = true) :
    joinedFacts P f fn s c = true := by
  unfold joinedFacts
  simp only [Bool.and_eq_true]
  exact ⟨⟨⟨⟨⟨⟨⟨⟨⟨⟨⟨⟨⟨⟨⟨⟨⟨⟨⟨⟨⟨⟨⟨⟨⟨⟨⟨⟨⟨⟨⟨h0, h1⟩, h2⟩, h3⟩, h4⟩, h5⟩, h6⟩, h7⟩, h8⟩, h9⟩, h10⟩, h11⟩, h12⟩, h13⟩, h14⟩, h15⟩, h16⟩, h17⟩, h18⟩, h19⟩, h20⟩, h21⟩, h22⟩, h23⟩, h24⟩, h25⟩, h26⟩, h27⟩, h28⟩, h29⟩, h30⟩, h31⟩
theorem joined : joinedFacts Tryz.prog 3 Tryz.f3 Rows.topTiresSpec Rows.topTiresRow = true :=
  joined_of j0 j1 j2 j3 j4 j5 j6 j7 j8 j9 j10 j11 j12 j13 j14 j15 j16 j17 j18 j19 j20 j21 j22 j23 j24 j25 j26 j27 j28 j29 j30 j31
end Go.Proofs.YtekdmgmdhhkaoaaGreatDoor
