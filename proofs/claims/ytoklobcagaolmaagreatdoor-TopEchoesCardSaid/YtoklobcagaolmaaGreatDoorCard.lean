/- tethertop.TopEchoes returns true at every input and leaves its arguments as they are: the row (TopEchoesSaid) and its card (TopEchoesCardSaid). Conditions: the row's own cells alone. -/
import Derived.Test.YtoklobcagaolmaaGreatDoorNb
import Derived.Test.YtoklobcagaolmaaGreatDoorNe
import Derived.Test.YtoklobcagaolmaaGreatDoorFd
import Derived.Test.YtoklobcagaolmaaGreatDoorNg
import Derived.Test.YtoklobcagaolmaaGreatDoorCards
import Derived.SevenTiedAt

namespace Go.Proofs.YtoklobcagaolmaaGreatDoor
open Go.ChangeShapes Go.WideShapes Go.RowKit
set_option maxRecDepth 1000000

theorem wf_i64 {n : Int} (h : (Lit.int .i64 n).wf = true) : -9223372036854775808 ≤ n ∧ n ≤ 9223372036854775807 := by
  have h : (decide (IntKind.min .i64 ≤ n) && decide (n ≤ IntKind.max .i64)) = true := h
  simp only [Bool.and_eq_true, decide_eq_true_eq] at h
  have e1 : IntKind.min .i64 = -9223372036854775808 := by decide
  have e2 : IntKind.max .i64 = 9223372036854775807 := by decide
  omega
theorem wf_u64 {n : Int} (h : (Lit.int .u64 n).wf = true) : 0 ≤ n ∧ n ≤ 18446744073709551615 := by
  have h : (decide (IntKind.min .u64 ≤ n) && decide (n ≤ IntKind.max .u64)) = true := h
  simp only [Bool.and_eq_true, decide_eq_true_eq] at h
  have e1 : IntKind.min .u64 = 0 := by decide
  have e2 : IntKind.max .u64 = 18446744073709551615 := by decide
  omega

theorem kept_of_heap {w w' : World} (h1 : w'.os = w.os) (h2 : w'.output = w.output) (h3 : ∀ i, i < w.heap.size → w'.heap[i]? = w.heap[i]?) (may : MemPlace → Prop) : w.keptBut w' may := by
  refine ⟨h1, h2, fun i hi => ?_⟩
  rw [h3 i hi]
  exact (World.keptBut_refl w may).2.2 i hi

theorem law_lifted (os : Os) (started : os.Started) (H : Type) (enc : TypeId × Value → H) :
    ReturnsInHanded {} Tryz.checked os 3 .any (fun w args => (Rows.topEchoesSpec.pre enc Tryz.prog Tryz.f3 [] false w args ∧ laidMetH Tryz.prog Rows.topEchoesRow.laid w) ∧ sizedMet enc Tryz.prog Tryz.f3 (OpenSpec.ofChange Rows.topEchoesSpec) false w args)
      (Rows.topEchoesSpec.post enc Tryz.prog Tryz.f3 false true false false) := by
  refine returnsInHanded_of_change_and (C := Tryz.checked) (X := fun w _ => laidMetH Tryz.prog Rows.topEchoesRow.laid w) (fun _ _ _ hh h => h.of_heap hh) own started (by kernel_rfl) Tryz.func3
    (ChangeSpec.witness_shaped (enc := enc) (C := Tryz.checked) (os := os) (X := fun w _ => laidMetH Tryz.prog Rows.topEchoesRow.laid w) false (laidWorld os) args0 8 (laidWorld_os os) (World.shaped_of_ZipB (wit_a os) (wit_b os)) (wit_c os) (wit_d os H enc) (wit_e os H enc) (laidWorld_met os _)) ?_
  intro W base args ds gs before hval0 hW _ _ hL _
  have hval : ∀ (j : Nat) t v, Tryz.f3.params[j]? = some t → args[j]? = some v → Value.okWide Tryz.prog W .any base t v := hval0
  have hW' := hW
  obtain ⟨p, q, hA0, hV0, rfl, hfz, hnd⟩ := hW
  have hA : DataW.TrodAll enc Tryz.prog W 0 (fun _ => true) true Tryz.f3.params.toList args.toList ds p := hA0
  have hV : DataW.TrodVars enc Tryz.prog W (fun _ => true) [] gs q := hV0
  rw [Tryz.params3] at hA hval
  obtain ⟨lst⟩ := args
  obtain ⟨v0, r0, d0, ds0, p0, q0, rfl, rfl, rfl, h0, hA⟩ := trodAll_cons hA
  obtain ⟨v1, r1, d1, ds1, p1, q1, rfl, rfl, rfl, h1, hA⟩ := trodAll_cons hA
  obtain ⟨v2, r2, d2, ds2, p2, q2, rfl, rfl, rfl, h2, hA⟩ := trodAll_cons hA
  obtain ⟨v3, r3, d3, ds3, p3, q3, rfl, rfl, rfl, h3, hA⟩ := trodAll_cons hA
  obtain ⟨rfl, rfl, rfl⟩ := trodAll_nil hA
  obtain ⟨a, rfl, rfl, rfl, wa⟩ := open_int Tryz.underlying3 (hval 0 3 v0 rfl rfl) h0
  obtain ⟨b, rfl, rfl, rfl, wb⟩ := open_int Tryz.underlying3 (hval 1 3 v1 rfl rfl) h1
  obtain ⟨c, rfl, rfl, rfl, wc⟩ := open_int Tryz.underlying3 (hval 2 3 v2 rfl rfl) h2
  obtain ⟨d, rfl, rfl, rfl, wd⟩ := open_int Tryz.underlying22 (hval 3 22 v3 rfl rfl) h3
  obtain ⟨rfl, rfl⟩ : gs = [] ∧ q = [] := by
    cases gs with
    | nil => exact ⟨rfl, hV⟩
    | cons g r => exact absurd hV (by intro h; cases h)
  obtain ⟨a0, a1, t0, t1, e0, s0, e1, s1⟩ := errs_of_laid hL
  refine (SE.echoes (wf_i64 wa) (wf_i64 wb) (wf_i64 wc) e0 s0 e1 s1).mono fun e W' ⟨he, ho, hout, _, hh⟩ => ?_
  subst he
  have ef : Rows.topEchoesSpec.fn H ([.lit (.int .i64 a), .lit (.int .i64 b), .lit (.int .i64 c), .lit (.int .u64 d)] ++ []) = { results := [.lit (.bool true)], args := [.lit (.int .i64 a), .lit (.int .i64 b), .lit (.int .i64 c), .lit (.int .u64 d)] } := by simp [Rows.topEchoesSpec]
  refine ⟨_, rfl, _, _, _, [], [], [], hW', ?_, ?_, ?_, kept_of_heap ho hout hh _, fun h => by cases h⟩
  · rw [ef]; exact trodAll_mk1 (shut_bool Tryz.underlying4 true)
  · rw [ef]; exact trodAll_append (trodAll_mk2 (shut_int Tryz.underlying3 wc) (shut_int Tryz.underlying22 wd)) (trodAll_mk2 (shut_int Tryz.underlying3 wa) (shut_int Tryz.underlying3 wb))
  · rw [ef]; rfl
end Go.Proofs.YtoklobcagaolmaaGreatDoor

namespace Go.Proofs.YtoklobcagaolmaaGreatDoor
set_option maxRecDepth 1000000

theorem inst_ok : Func.isInstance Tryz.prog Tryz.f3 Rows.topEchoesRow.origin Rows.topEchoesRow.targs := of_decide_eq_true (by kernel_rfl)
theorem wrap_ok : Func.isWrapper Tryz.prog Tryz.f3 Rows.topEchoesRow.wrapper Rows.topEchoesRow.mainSum := by
  unfold Func.isWrapper
  rw [if_neg (of_decide_eq_false (by kernel_rfl))]
  exact ⟨rfl, rfl⟩
/-- THE LAW: tethertop.TopEchoes returns true at every input, under the row's premise that the listed variables hold what they list -/
theorem topEchoes_holds : Rows.TopEchoesSaid :=
  OpenClaim.holds_of_wide 3 Tryz.f3 rfl rfl rfl rfl rfl rfl rfl ⟨rfl, rfl, rfl, rfl, rfl⟩ rfl rfl rfl rfl rfl funcNamed3 Tryz.func3 joined inst_ok wrap_ok
    (fun os started H enc _ => law_lifted os started H enc)
end Go.Proofs.YtoklobcagaolmaaGreatDoor

namespace Go.Proofs.YtoklobcagaolmaaGreatDoor
set_option maxRecDepth 1000000

theorem c_wf : OpenClaim.wfByText (OpenSpec.ofChange Rows.topEchoesSpec) Rows.topEchoesRow = true := by kernel_rfl
theorem c_main : Tryz.prog.mainIs = some (true, "11648282000393db3e8247161e2187387db64b583eecc63159015c2103a25616".toList) := by kernel_rfl
theorem c_looks : true = Tryz.prog.looks [] := by kernel_rfl
theorem c_in3 : Tryz.prog.wantsStandIn 3 = false := by kernel_rfl
theorem c_in22 : Tryz.prog.wantsStandIn 22 = false := by kernel_rfl
theorem c_params : ∀ (j : Nat) (t : TypeId), Tryz.f3.params[j]? = some t → Tryz.prog.wantsStandIn t = false := by
  intro j t ht
  rw [Tryz.params3] at ht
  rcases j with _ | _ | _ | _ | j
  · have e : t = 3 := by simpa using ht.symm
    subst e; exact c_in3
  · have e : t = 3 := by simpa using ht.symm
    subst e; exact c_in3
  · have e : t = 3 := by simpa using ht.symm
    subst e; exact c_in3
  · have e : t = 22 := by simpa using ht.symm
    subst e; exact c_in22
  · simp at ht
/-- THE CARD: tethertop.TopEchoes returns true at every input, the listed variables tied to the program's text -/
theorem topEchoes_card : Rows.TopEchoesCardSaid :=
  Claim7.holds_tied_plain_at .later [] [.sentinel, .handle, .pinned, .data, .sentinel, .sentinel, .data, .data, .data, .sentinel, .data, .pinned, .pinned, .data] true (true, "11648282000393db3e8247161e2187387db64b583eecc63159015c2103a25616") true
    topEchoes_holds (fun _ h => by cases h) c_wf (fun _ h => by cases h) own_row_tie rfl ⟨rfl, rfl⟩ c_main rfl
    (fun f fn hf hfn => by
      obtain rfl : f = 3 := Option.some.inj (hf.symm.trans funcNamed3)
      obtain rfl : fn = Tryz.f3 := (Option.some.inj (Tryz.func3.symm.trans hfn)).symm
      exact ⟨c_looks, c_params⟩)
    f_goes
end Go.Proofs.YtoklobcagaolmaaGreatDoor
