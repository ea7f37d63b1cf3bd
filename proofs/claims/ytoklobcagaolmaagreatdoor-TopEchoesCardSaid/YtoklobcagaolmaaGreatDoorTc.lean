/- EVERY INPUT: the call of tethertop.TopEchoes returns true and leaves what was there: the loops by induction over the runs. Conditions: the two listed errors lie in the first two blocks; the arguments are in the ranges of their kinds. -/
import Derived.Test.YtoklobcagaolmaaGreatDoorTb
import Derived.Test.YtoklobcagaolmaaGreatDoorRa
import Derived.Test.YtoklobcagaolmaaGreatDoorRb
import Derived.Test.YtoklobcagaolmaaGreatDoorRc
import Derived.Test.YtoklobcagaolmaaGreatDoorRd
import Derived.Test.YtoklobcagaolmaaGreatDoorRe
import Derived.Test.YtoklobcagaolmaaGreatDoorRf
import Derived.Test.YtoklobcagaolmaaGreatDoorRg
import Derived.Test.YtoklobcagaolmaaGreatDoorRh
import Derived.Test.YtoklobcagaolmaaGreatDoorRi

namespace Go.Proofs.YtoklobcagaolmaaGreatDoor.SE
open Go.Proofs
set_option maxRecDepth 100000
variable {ρ : Val}

/-! ## the codes -/
def isBlk (i : Nat) : Code → Bool
  | .block j (.loop _) => Nat.beq j i
  | _ => false
theorem isBlk_eq {i : Nat} {c : Code} (h : isBlk i c = true) : c = .block i (.loop (lp (blk c))) := by
  unfold isBlk at h
  split at h
  · have := beqN h; subst this; rfl
  · cases h
theorem shL : isSeq 4 law = true := by kernel_rfl
theorem shJ : isSeq 3 lawJ = true := by kernel_rfl
theorem shF : isSeq 2 lawF = true := by kernel_rfl
theorem shF' : isSeq 1 (rest 2 lawF) = true := by kernel_rfl
theorem shA : isSeq 1 lawA = true := by kernel_rfl
theorem shA' : isBlk 0 (tl lawA) = true := by kernel_rfl
theorem shB : isSeq 5 lawB = true := by kernel_rfl
theorem shB' : isSeq 1 (rest 5 lawB) = true := by kernel_rfl
theorem shA2 : isSeq 1 lawA2 = true := by kernel_rfl
theorem shA2' : isBlk 2 (tl lawA2) = true := by kernel_rfl
theorem okL : CodeOk Tryz.prog Tryz.f3.ntmps law := codeB_ok (by rw [Tryz.globals_size]; kernel_rfl)
theorem okJ : CodeOk Tryz.prog Tryz.f3.ntmps lawJ := codeB_ok (by rw [Tryz.globals_size]; kernel_rfl)
theorem okF : CodeOk Tryz.prog Tryz.f3.ntmps lawF := codeB_ok (by rw [Tryz.globals_size]; kernel_rfl)
theorem okA : CodeOk Tryz.prog Tryz.f3.ntmps lawA := codeB_ok (by rw [Tryz.globals_size]; kernel_rfl)
theorem okLB : CodeOk Tryz.prog Tryz.f3.ntmps lawB := codeB_ok (by rw [Tryz.globals_size]; kernel_rfl)
theorem ok1 : CodeOk Tryz.prog Tryz.f3.ntmps lb1 := codeB_ok (by rw [Tryz.globals_size]; kernel_rfl)
theorem okA2 : CodeOk Tryz.prog Tryz.f3.ntmps lawA2 := codeB_ok (by rw [Tryz.globals_size]; kernel_rfl)
theorem ok2 : CodeOk Tryz.prog Tryz.f3.ntmps lb2 := codeB_ok (by rw [Tryz.globals_size]; kernel_rfl)
theorem okT : CodeOk Tryz.prog Tryz.f3.ntmps lawT := codeB_ok (by rw [Tryz.globals_size]; kernel_rfl)
theorem eqF : rest 2 lawF = .seq lawA lawB := (isSeq_eq (n := 0) shF').1
theorem eqLA : rest 1 lawA = .block 0 (.loop lb1) := isBlk_eq shA'
theorem eqLB : rest 5 lawB = .seq lawA2 lawT := (isSeq_eq (n := 0) shB').1
theorem eqA2 : rest 1 lawA2 = .block 2 (.loop lb2) := isBlk_eq shA2'

/-! ## the low rows -/
noncomputable def emptyB (h : T AO) : Bool := (List.range 16).all fun i => (h.get (i + 2)).isNone
theorem low_of {h : T AO} (he : emptyB h = true) {W : World} {io : Io} {hb : T AO} {t0 t1 : TypeId} : Low P0 ⟨io, hb, W, 18⟩ t0 t1 (wE t0 t1 h) := by
  intro i hi o ho
  unfold wE at ho
  rw [T.get_set, T.get_set] at ho
  by_cases e1 : i = 1
  · subst e1
    rw [if_pos rfl] at ho
    cases ho
    exact .inr ⟨rfl, rfl⟩
  · rw [if_neg e1] at ho
    by_cases e0 : i = 0
    · subst e0
      rw [if_pos rfl] at ho
      cases ho
      exact .inl ⟨rfl, rfl⟩
    · rw [if_neg e0] at ho
      have hi : i < 18 := hi
      have := List.all_eq_true.1 he (i - 2) (List.mem_range.2 (by omega))
      rw [show i - 2 + 2 = i by omega, ho] at this
      cases this
theorem low_00 {W : World} {io : Io} {hb : T AO} {t0 t1 : TypeId} : Low P0 ⟨io, hb, W, 18⟩ t0 t1 (h00 t0 t1) := by
  intro i hi o ho
  rw [h00_get] at ho
  by_cases e0 : i = 0
  · subst e0; rw [if_pos rfl] at ho; cases ho; exact .inl ⟨rfl, rfl⟩
  · rw [if_neg e0] at ho
    by_cases e1 : i = 1
    · subst e1; rw [if_pos rfl] at ho; cases ho; exact .inr ⟨rfl, rfl⟩
    · rw [if_neg e1] at ho; cases ho
theorem empJ : emptyB hJ = true := by kernel_rfl
theorem empU (k : Nat) (now due : AV) : emptyB (hU k now due) = true := by kernel_rfl
theorem empD (k : Nat) : emptyB (hD k) = true := by kernel_rfl
theorem empE : emptyB hE = true := by kernel_rfl

/-! ## the contexts -/
/-- what holds of the atoms all along: every, most, good -/
structure Cd (E M G : Int) (ρ : Val) : Prop where
  low : ∀ i, i < 16 → -18446744073709551616 ≤ ρ i ∧ ρ i ≤ 18446744073709551616
  e : ρ 16 = E
  m : ρ 17 = M
  g : ρ 18 = G
  e0 : 100 ≤ E
  e1 : E ≤ 1123
  m0 : 1 ≤ M
  m1 : M ≤ 5
  g0 : 0 ≤ G
  g1 : G ≤ 7
theorem ctx_of {w : Int × Int} {fs : List (Lin × Cmp × Bool)} {E M G : Int} (h : Cd E M G ρ) (h19 : 0 ≤ ρ 19 ∧ ρ 19 ≤ 1000000) (h20 : w.1 ≤ ρ 20 ∧ ρ 20 ≤ w.2) (h21 : 0 ≤ ρ 21 ∧ ρ 21 ≤ 100000) (h22 : 0 ≤ ρ 22 ∧ ρ 22 ≤ 70)
    (hf : ∀ e q b, (e, q, b) ∈ fs → q.sem (e.eval ρ) = b) : (⟨boxL w, [], fs⟩ : Ctx).ok ρ := by
  obtain ⟨hl, he, hm, hg, e0, e1, m0, m1, g0, g1⟩ := h
  refine ⟨?_, (fun d l h => by cases h), hf⟩
  intro i lo hi hi'
  rcases i with _ | _ | _ | _ | _ | _ | _ | _ | _ | _ | _ | _ | _ | _ | _ | _ | _ | _ | _ | _ | _ | _ | _ | i <;>
    (simp only [boxL, List.getElem?_cons_zero, List.getElem?_cons_succ, Option.some.injEq, List.getElem?_nil, reduceCtorEq] at hi')
  any_goals (injection hi' with ha hb; subst ha hb; exact hl _ (by decide))
  · injection hi' with ha hb; subst ha hb; show _ ≤ ρ 16 ∧ ρ 16 ≤ _; omega
  · injection hi' with ha hb; subst ha hb; show _ ≤ ρ 17 ∧ ρ 17 ≤ _; omega
  · injection hi' with ha hb; subst ha hb; show _ ≤ ρ 18 ∧ ρ 18 ≤ _; omega
  · injection hi' with ha hb; subst ha hb; show _ ≤ ρ 19 ∧ ρ 19 ≤ _; omega
  · subst hi'; exact h20
  · injection hi' with ha hb; subst ha hb; show _ ≤ ρ 21 ∧ ρ 21 ≤ _; omega
  · injection hi' with ha hb; subst ha hb; show _ ≤ ρ 22 ∧ ρ 22 ≤ _; omega
theorem fact_lt {e : Lin} {b : Bool} (h : decide (e.eval ρ < 0) = b) : Cmp.sem .lt (e.eval ρ) = b := h
theorem fact_le {e : Lin} {b : Bool} (h : decide (e.eval ρ ≤ 0) = b) : Cmp.sem .le (e.eval ρ) = b := h
theorem fact_eq {e : Lin} {b : Bool} (h : decide (e.eval ρ = 0) = b) : Cmp.sem .eq (e.eval ρ) = b := h
theorem Γf_ok {E M G : Int} (h : Cd E M G ρ) (h19 : 0 ≤ ρ 19 ∧ ρ 19 ≤ 1000000) (h20 : ρ 20 = 0) (h21 : 0 ≤ ρ 21 ∧ ρ 21 ≤ 100000) (h22 : 0 ≤ ρ 22 ∧ ρ 22 ≤ 70) : Γf.ok ρ :=
  ctx_of h h19 ⟨by show (0 : Int) ≤ _; omega, by show _ ≤ (0 : Int); omega⟩ h21 h22 (fun _ _ _ hf => by cases hf)
section
variable {E M G : Int} (h : Cd E M G ρ) (h19 : 0 ≤ ρ 19 ∧ ρ 19 ≤ 1000000) (h21 : 0 ≤ ρ 21 ∧ ρ 21 ≤ 100000) (h22 : 0 ≤ ρ 22 ∧ ρ 22 ≤ 70)
include h h19 h21 h22
theorem Γgood_ok {k : Int} (h20 : ρ 20 = 0) (h1 : k < G) : (Γgood k).ok ρ := by
  have := h.g; have := h.m; have := h.m0
  refine ctx_of h h19 ⟨by show (0 : Int) ≤ _; omega, by show _ ≤ (0 : Int); omega⟩ h21 h22 ?_
  intro e q b hf
  simp only [List.mem_cons, List.mem_nil_iff, or_false, Prod.mk.injEq] at hf
  rcases hf with ⟨rfl, rfl, rfl⟩ | ⟨rfl, rfl, rfl⟩ | ⟨rfl, rfl, rfl⟩ <;> first | (refine decide_eq_true ?_; simp only [Lin.eval, termsEval]; omega) | (refine decide_eq_false ?_; simp only [Lin.eval, termsEval]; omega)
theorem Γsil_ok {k : Int} (h20 : ρ 20 = k - G) (h1 : G ≤ k) (h2 : k < G + M) : (Γsil k).ok ρ := by
  have := h.g; have := h.m; have := h.m1
  refine ctx_of h h19 ⟨by show (0 : Int) ≤ _; omega, by show _ ≤ (4 : Int); omega⟩ h21 h22 ?_
  intro e q b hf
  simp only [List.mem_cons, List.mem_nil_iff, or_false, Prod.mk.injEq] at hf
  rcases hf with ⟨rfl, rfl, rfl⟩ | ⟨rfl, rfl, rfl⟩ | ⟨rfl, rfl, rfl⟩ | ⟨rfl, rfl, rfl⟩ <;> first | (refine decide_eq_true ?_; simp only [Lin.eval, termsEval]; omega) | (refine decide_eq_false ?_; simp only [Lin.eval, termsEval]; omega)
theorem Γexit_ok {k : Int} (h20 : ρ 20 = M) (h1 : k = G + M) : (Γexit k).ok ρ := by
  have := h.g; have := h.m; have := h.m1; have := h.m0
  refine ctx_of h h19 ⟨by show (1 : Int) ≤ _; omega, by show _ ≤ (5 : Int); omega⟩ h21 h22 ?_
  intro e q b hf
  simp only [List.mem_cons, List.mem_nil_iff, or_false, Prod.mk.injEq] at hf
  rcases hf with ⟨rfl, rfl, rfl⟩ | ⟨rfl, rfl, rfl⟩ <;> first | (refine decide_eq_true ?_; simp only [Lin.eval, termsEval]; omega) | (refine decide_eq_false ?_; simp only [Lin.eval, termsEval]; omega)
theorem Γend_ok (h20 : ρ 20 = M) : Γend.ok ρ := by
  have := h.m; have := h.m1; have := h.m0
  refine ctx_of h h19 ⟨by show (1 : Int) ≤ _; omega, by show _ ≤ (5 : Int); omega⟩ h21 h22 ?_
  intro e q b hf
  simp only [List.mem_cons, List.mem_nil_iff, or_false, Prod.mk.injEq] at hf
  rcases hf with ⟨rfl, rfl, rfl⟩
  first | (refine decide_eq_true ?_; simp only [Lin.eval, termsEval]; omega) | (refine decide_eq_false ?_; simp only [Lin.eval, termsEval]; omega)
variable (h20 : 0 ≤ ρ 20 ∧ ρ 20 ≤ 100000)
include h20
theorem Γidle_ok (h1 : ρ 22 < 70) (h2 : ρ 19 + E < ρ 21 + 3000) : Γidle.ok ρ := by
  have := h.e; have := h.e0
  refine ctx_of h h19 h20 h21 h22 ?_
  intro e q b hf
  simp only [List.mem_cons, List.mem_nil_iff, or_false, Prod.mk.injEq] at hf
  rcases hf with ⟨rfl, rfl, rfl⟩ | ⟨rfl, rfl, rfl⟩ | ⟨rfl, rfl, rfl⟩ <;> first | (refine decide_eq_true ?_; simp only [Lin.eval, termsEval]; omega) | (refine decide_eq_false ?_; simp only [Lin.eval, termsEval]; omega)
theorem Γfirst_ok (h1 : ρ 22 < 70) (h2 : ρ 21 + 3000 ≤ ρ 19 + E) (h3 : ρ 19 < ρ 21 + 3000) : Γfirst.ok ρ := by
  have := h.e; have := h.e0
  refine ctx_of h h19 h20 h21 h22 ?_
  intro e q b hf
  simp only [List.mem_cons, List.mem_nil_iff, or_false, Prod.mk.injEq] at hf
  rcases hf with ⟨rfl, rfl, rfl⟩ | ⟨rfl, rfl, rfl⟩ | ⟨rfl, rfl, rfl⟩ <;> first | (refine decide_eq_true ?_; simp only [Lin.eval, termsEval]; omega) | (refine decide_eq_false ?_; simp only [Lin.eval, termsEval]; omega)
theorem Γidle2_ok (h1 : ρ 22 < 70) (h2 : ρ 19 + E < ρ 20 + 3000) (h3 : ρ 20 < ρ 21 + 3000 + E) : Γidle2.ok ρ := by
  have := h.e; have := h.e0
  refine ctx_of h h19 h20 h21 h22 ?_
  intro e q b hf
  simp only [List.mem_cons, List.mem_nil_iff, or_false, Prod.mk.injEq] at hf
  rcases hf with ⟨rfl, rfl, rfl⟩ | ⟨rfl, rfl, rfl⟩ | ⟨rfl, rfl, rfl⟩ <;> first | (refine decide_eq_true ?_; simp only [Lin.eval, termsEval]; omega) | (refine decide_eq_false ?_; simp only [Lin.eval, termsEval]; omega)
theorem Γfin_ok (h1 : ρ 22 < 69) (h2 : ρ 20 + 3000 ≤ ρ 19 + E) (h3 : ρ 20 < ρ 21 + 3000 + E) (h4 : ρ 21 + 3000 ≤ ρ 20) (h5 : ρ 19 < ρ 20 + 3000) : Γfin.ok ρ := by
  have := h.e; have := h.e0
  refine ctx_of h h19 h20 h21 h22 ?_
  intro e q b hf
  simp only [List.mem_cons, List.mem_nil_iff, or_false, Prod.mk.injEq] at hf
  rcases hf with ⟨rfl, rfl, rfl⟩ | ⟨rfl, rfl, rfl⟩ | ⟨rfl, rfl, rfl⟩ | ⟨rfl, rfl, rfl⟩ | ⟨rfl, rfl, rfl⟩ | ⟨rfl, rfl, rfl⟩ | ⟨rfl, rfl, rfl⟩ <;> first | (refine decide_eq_true ?_; simp only [Lin.eval, termsEval]; omega) | (refine decide_eq_false ?_; simp only [Lin.eval, termsEval]; omega)
end
end Go.Proofs.YtoklobcagaolmaaGreatDoor.SE

namespace Go.Proofs.YtoklobcagaolmaaGreatDoor.SE
open Go.Proofs
set_option maxRecDepth 100000
/-! ## the runs, for every number of ticks -/
noncomputable def nowK : Nat → AV
  | 0 => iI 0
  | k + 1 => .sym .i64 ⟨0, [(16, ((k + 1 : Nat) : Int))]⟩
theorem good_all : ∀ k : Nat, 0 ≤ k → k ≤ 6 → ∀ t0 t1, segT (ex lb1 (envL (Γgood ((k : Nat) : Int)) P0 exts0) (SU k (nowK k) (nowK (k + 1)) t0 t1)) isNorm 18 63 s63 τ0 (tmU (k + 1) (nowK (k + 1))) (wE t0 t1 (hU (k + 1) (nowK (k + 1)) (nowK (k + 2)))) = (true, t0, t1)
  | 0, _, _ => good0
  | 1, _, _ => good1
  | 2, _, _ => good2
  | 3, _, _ => good3
  | 4, _, _ => good4
  | 5, _, _ => good5
  | 6, _, _ => good6
  | k + 7, _, h => absurd h (by omega)
theorem sil_all : ∀ k : Nat, 0 ≤ k → k ≤ 11 → ∀ t0 t1, segT (ex lb1 (envL (Γsil ((k : Nat) : Int)) P0 exts0) (SU k (nowK k) (nowK (k + 1)) t0 t1)) isNorm 18 63 s63 τ1 (tmU (k + 1) (nowK (k + 1))) (wE t0 t1 (hU (k + 1) (nowK (k + 1)) (nowK (k + 2)))) = (true, t0, t1)
  | 0, _, _ => sil0
  | 1, _, _ => sil1
  | 2, _, _ => sil2
  | 3, _, _ => sil3
  | 4, _, _ => sil4
  | 5, _, _ => sil5
  | 6, _, _ => sil6
  | 7, _, _ => sil7
  | 8, _, _ => sil8
  | 9, _, _ => sil9
  | 10, _, _ => sil10
  | 11, _, _ => sil11
  | k + 12, _, h => absurd h (by omega)
theorem exit_all : ∀ k : Nat, 1 ≤ k → k ≤ 12 → ∀ t0 t1, segT (ex lb1 (envL (Γexit ((k : Nat) : Int)) P0 exts0) (SU k (nowK k) (nowK (k + 1)) t0 t1)) (isExit 0) 18 63 s63 [] (tmU k (nowK k)) (wE t0 t1 (hU k (nowK k) (nowK (k + 1)))) = (true, t0, t1)
  | 0, h, _ => absurd h (by decide)
  | 1, _, _ => exit1
  | 2, _, _ => exit2
  | 3, _, _ => exit3
  | 4, _, _ => exit4
  | 5, _, _ => exit5
  | 6, _, _ => exit6
  | 7, _, _ => exit7
  | 8, _, _ => exit8
  | 9, _, _ => exit9
  | 10, _, _ => exit10
  | 11, _, _ => exit11
  | 12, _, _ => exit12
  | k + 13, _, h => absurd h (by omega)
theorem end_all : ∀ k : Nat, 1 ≤ k → k ≤ 12 → ∀ t0 t1, segT (exs (items 5 lawB) (envL Γend P0 exts0) (SU k (nowK k) (nowK (k + 1)) t0 t1)) isNorm 18 63 s63 (τk ((k + 1 : Nat) : Int)) tmD0 (wE t0 t1 (hD k)) = (true, t0, t1)
  | 0, h, _ => absurd h (by decide)
  | 1, _, _ => end1
  | 2, _, _ => end2
  | 3, _, _ => end3
  | 4, _, _ => end4
  | 5, _, _ => end5
  | 6, _, _ => end6
  | 7, _, _ => end7
  | 8, _, _ => end8
  | 9, _, _ => end9
  | 10, _, _ => end10
  | 11, _, _ => end11
  | 12, _, _ => end12
  | k + 13, _, h => absurd h (by omega)
theorem cnt_all : ∀ k : Nat, 1 ≤ k → k ≤ 12 → ∀ t0 t1, segT (exs (items 1 lawA2) (envL Γend P0 exts0) (SD0 k t0 t1)) isNorm 18 63 s63 τc tmD (wE t0 t1 (hD k)) = (true, t0, t1)
  | 0, h, _ => absurd h (by decide)
  | 1, _, _ => cnt1
  | 2, _, _ => cnt2
  | 3, _, _ => cnt3
  | 4, _, _ => cnt4
  | 5, _, _ => cnt5
  | 6, _, _ => cnt6
  | 7, _, _ => cnt7
  | 8, _, _ => cnt8
  | 9, _, _ => cnt9
  | 10, _, _ => cnt10
  | 11, _, _ => cnt11
  | 12, _, _ => cnt12
  | k + 13, _, h => absurd h (by omega)
theorem idle_all : ∀ k : Nat, 1 ≤ k → k ≤ 12 → ∀ t0 t1, segT (ex lb2 (envL Γidle P0 exts0) (SD k t0 t1)) isNorm 18 63 s63 τi tmD (wE t0 t1 (hD k)) = (true, t0, t1)
  | 0, h, _ => absurd h (by decide)
  | 1, _, _ => idle1
  | 2, _, _ => idle2
  | 3, _, _ => idle3
  | 4, _, _ => idle4
  | 5, _, _ => idle5
  | 6, _, _ => idle6
  | 7, _, _ => idle7
  | 8, _, _ => idle8
  | 9, _, _ => idle9
  | 10, _, _ => idle10
  | 11, _, _ => idle11
  | 12, _, _ => idle12
  | k + 13, _, h => absurd h (by omega)
theorem first_all : ∀ k : Nat, 1 ≤ k → k ≤ 12 → ∀ t0 t1, segT (ex lb2 (envL Γfirst P0 exts0) (SD k t0 t1)) isNorm 18 63 s63 τf tmD (wE t0 t1 hE) = (true, t0, t1)
  | 0, h, _ => absurd h (by decide)
  | 1, _, _ => first1
  | 2, _, _ => first2
  | 3, _, _ => first3
  | 4, _, _ => first4
  | 5, _, _ => first5
  | 6, _, _ => first6
  | 7, _, _ => first7
  | 8, _, _ => first8
  | 9, _, _ => first9
  | 10, _, _ => first10
  | 11, _, _ => first11
  | 12, _, _ => first12
  | k + 13, _, h => absurd h (by omega)
end Go.Proofs.YtoklobcagaolmaaGreatDoor.SE

namespace Go.Proofs.YtoklobcagaolmaaGreatDoor.SE
open Go.Proofs
set_option maxRecDepth 100000
variable {ρ : Val}

/-! ## rounds -/
theorem rounds_add {F : Fence} {n : Nat} {P : Program} {c : Code} {Q : Exit → Act → World → Prop} (j : Nat) : ∀ (k : Nat) (a : Act) (w : World), Code.roundsIn F n P c Q k a w → Code.roundsIn F n P c Q (j + k) a w
  | 0, _, _, h => h.elim
  | k + 1, a, w, h => by
    have h : c.wpIn F n P (Exit.then (Code.roundsIn F n P c Q k) Q) a w := h
    show c.wpIn F n P (Exit.then (Code.roundsIn F n P c Q (j + k)) Q) a w
    refine wpIn_mono h ?_
    intro e a w h
    cases e with
    | normal => exact rounds_add j k a w h
    | exit i => exact h
    | goto l => exact h
    | ret => exact h
    | panic ch => exact h
    | outgrown => exact h
theorem rounds_mono {F : Fence} {n : Nat} {P : Program} {c : Code} {Q Q' : Exit → Act → World → Prop} (hQ : ∀ e a w, Q e a w → Q' e a w) : ∀ (k : Nat) (a : Act) (w : World), Code.roundsIn F n P c Q k a w → Code.roundsIn F n P c Q' k a w
  | 0, _, _, h => h.elim
  | k + 1, a, w, h => by
    have h : c.wpIn F n P (Exit.then (Code.roundsIn F n P c Q k) Q) a w := h
    show c.wpIn F n P (Exit.then (Code.roundsIn F n P c Q' k) Q') a w
    refine wpIn_mono h ?_
    intro e a w h
    cases e with
    | normal => exact rounds_mono hQ k a w h
    | exit i => exact hQ _ _ _ h
    | goto l => exact hQ _ _ _ h
    | ret => exact hQ _ _ _ h
    | panic ch => exact hQ _ _ _ h
    | outgrown => exact hQ _ _ _ h
theorem iter_rounds {E : Env} (hE : EnvOk E ρ) (hr : E.rnd = false) {m : Nat} {B : Base} {nt : Nat} {x : Code} (hc : CodeOk E.P.P nt x) :
    ∀ (n : Nat) (out : Out) (s : St) (a : Act) (w : World), iter n (ex x E) s = out → out.fine → Good E ρ B nt s a w → Code.roundsIn (W none) m E.P.P x (PostOut E ρ B nt out) n a w
  | 0, out, s, a, w, he, hf, hg => by subst he; exact hf.elim
  | n + 1, out, s, a, w, he, hf, hg => by
    have he : (ex x E s).elim (fun xx s' => xx.elim (iter n (ex x E) s') (.out .ret s') (fun i => .out (.exit i) s')) .bad = out := he
    show x.wpIn (W none) m E.P.P (Exit.then (Code.roundsIn (W none) m E.P.P x (PostOut E ρ B nt out) n) (PostOut E ρ B nt out)) a w
    cases hx : ex x E s with
    | bad t => rw [hx] at he; subst he; exact hf.elim
    | out xx s1 =>
      rw [hx] at he
      have ih1 := ex_ok hE (ro := none) (m := m) (fun _ => rfl) x s a w hc (by rw [hx]; trivial) hg
      rw [hx] at ih1
      refine wpIn_mono ih1 ?_
      intro e1 a1 w1 h1
      cases xx with
      | norm => obtain ⟨e2, hg1⟩ := h1; subst e2; exact iter_rounds hE hr hc n out s1 a1 w1 he hf hg1
      | ret =>
        obtain ⟨e2, hg1⟩ := h1; subst e2
        have he : Out.out .ret s1 = out := he
        subst he; exact ⟨rfl, hg1⟩
      | exit i =>
        obtain ⟨e2, hg1⟩ := h1; subst e2
        have he : Out.out (.exit i) s1 = out := he
        subst he; exact ⟨rfl, hg1⟩
theorem ex_loop_eq (E : Env) (x : Code) (s : St) : ex (.loop x) E s = iter E.rounds (ex x E) s := rfl
theorem finish_to {m : Nat} {E : Env} (hE : EnvOk E ρ) {fn : Func} {B : Base} {s : St} {a : Act} {w : World} (hg : Good E ρ B fn.ntmps s a w) {v : AV} {h' : T AO} {nx' : Nat}
    (hf : finish false E fn s = .ok ⟨v, h', nx'⟩) {RR : Ending → World → Prop} (hR : ∀ e w', After E.P.P ρ B.ι B.h B.w B.nx v h' nx' e w' → RR e w') : LeavesInM (W none) m E.P.P fn a.tmps RR a.defers .returning w := by
  obtain ⟨ι, hHR, hAR, hDR, hN⟩ := hg.rel
  have key : ∀ h1 nx1, runDefers E.dcall s.df s.h s.nx = .ok (h1, nx1) → resultsR E.P fn s.tm h1 nx1 = .ok ⟨v, h', nx'⟩ → LeavesInM (W none) m E.P.P fn a.tmps RR a.defers .returning w := by
    intro h1 nx1 hd hres
    refine leaves_ok hE hHR hDR hd ?_
    intro ι' w' hr' hn'
    obtain ⟨e1, e2, v', q1, q2⟩ := resultsR_ok hE.tab hr' (hAR.mono hn'.le) hres
    subst e1 e2
    exact ⟨v', q1, hR _ _ ⟨v', ι', rfl, q2, hr', hN.trans hn'⟩⟩
  unfold finish at hf
  split at hf
  · rename_i hd
    exact key s.h s.nx (by rw [hd]; rfl) hf
  · rename_i df hd
    have hf : (match runDefers E.dcall s.df s.h s.nx with | .ok (h', nx') => resultsR E.P fn s.tm h' nx' | .no w => .no w) = .ok ⟨v, h', nx'⟩ := hf
    split at hf
    · rename_i h1 nx1 hq
      exact key h1 nx1 hq hf
    · cases hf
theorem finO_some {E : Env} {s : St} {r : AV × Option AO × Option AO} (h : finO E s = some r) : ∃ s1 s2 v h2 nx2, ex (.loop lb2) E s = .out (.exit 2) s1 ∧ ex lawT E s1 = .out .ret s2 ∧ finish false E Tryz.f3 s2 = .ok ⟨v, h2, nx2⟩ ∧ (v, h2.get 0, h2.get 1) = r := by
  unfold finO at h
  cases h1 : ex (.loop lb2) E s with
  | bad t => rw [h1] at h; cases h
  | out x s1 =>
    rw [h1] at h
    have h : bif2 (isExit 2 x) ((ex lawT E s1).elim (fun x s2 => x.elim none ((finish false E Tryz.f3 s2).elim (fun r => r.elim fun v h _ => some (v, h.get 0, h.get 1)) (fun _ => none)) (fun _ => none)) (fun _ => none)) none = some r := h
    cases x with
    | norm => cases h
    | ret => cases h
    | exit i =>
      cases hi : Nat.beq i 2 with
      | false => rw [show isExit 2 (.exit i) = Nat.beq i 2 from rfl, hi] at h; cases h
      | true =>
        rw [show isExit 2 (.exit i) = Nat.beq i 2 from rfl, hi] at h
        have hi := beqN hi
        subst hi
        have h : (ex lawT E s1).elim (fun x s2 => x.elim none ((finish false E Tryz.f3 s2).elim (fun r => r.elim fun v h _ => some (v, h.get 0, h.get 1)) (fun _ => none)) (fun _ => none)) (fun _ => none) = some r := h
        cases h2 : ex lawT E s1 with
        | bad t => rw [h2] at h; cases h
        | out x s2 =>
          rw [h2] at h
          cases x with
          | norm => cases h
          | exit i => cases h
          | ret =>
            have h : (finish false E Tryz.f3 s2).elim (fun r => r.elim fun v h _ => some (v, h.get 0, h.get 1)) (fun _ => none) = some r := h
            cases h3 : finish false E Tryz.f3 s2 with
            | no t => rw [h3] at h; cases h
            | ok q =>
              rw [h3] at h
              obtain ⟨v, hh, nx⟩ := q
              have h : some (v, hh.get 0, hh.get 1) = some r := h
              exact ⟨s1, s2, v, hh, nx, rfl, h2, h3, Option.some.inj h⟩

/-! ## the atoms after a checkpoint -/
theorem rhoOf_id {τ : Tau} {i : Nat} (h : (τ.find? fun p => Nat.beq p.1 i) = none) : rhoOf τ ρ i = ρ i := by
  unfold rhoOf tauOf
  rw [h]
  exact Lin.eval_atom i
theorem rhoOf_nil : rhoOf [] ρ = ρ := funext fun _ => rhoOf_id rfl
theorem rhoOf_eq {τ : Tau} {i : Nat} {p : Nat × Lin} (h : (τ.find? fun p => Nat.beq p.1 i) = some p) : rhoOf τ ρ i = p.2.eval ρ := by
  unfold rhoOf tauOf
  rw [h]
theorem Cd.turn {E M G : Int} (h : Cd E M G ρ) {τ : Tau} (ht : tauHigh τ = true) (h16 : (τ.find? fun p => Nat.beq p.1 16) = none) (h17 : (τ.find? fun p => Nat.beq p.1 17) = none) (h18 : (τ.find? fun p => Nat.beq p.1 18) = none) : Cd E M G (rhoOf τ ρ) :=
  ⟨fun i hi => by rw [rhoOf_low ht hi]; exact h.low i hi, by rw [rhoOf_id h16]; exact h.e, by rw [rhoOf_id h17]; exact h.m, by rw [rhoOf_id h18]; exact h.g, h.e0, h.e1, h.m0, h.m1, h.g0, h.g1⟩

section
variable {t0 t1 : TypeId} {a0 a1 : Addr} {W0 : World} {E M G : Int} {m : Nat} {Q : Exit → Act → World → Prop}
noncomputable abbrev BE (t0 t1 : TypeId) (a0 a1 : Addr) (W0 : World) : Base := ⟨ioE a0 a1, h00 t0 t1, W0, 18⟩
theorem baseE : BaseOk P0 (BE t0 t1 a0 a1 W0) := by
  refine ⟨?_, ?_⟩
  · show Tryz.prog.globals.size ≤ 18
    rw [Tryz.globals_size]; omega
  · intro i l hl
    have hl : ioE a0 a1 i = some l := hl
    show i < 18
    unfold ioE at hl
    split at hl
    · omega
    · split at hl
      · omega
      · split at hl
        · omega
        · cases hl
/-- at a state of the law -/
abbrev AtL (t0 t1 : TypeId) (a0 a1 : Addr) (W0 : World) (ρ : Val) (S : St) (a : Act) (w : World) : Prop := Here' P0 ρ (BE t0 t1 a0 a1 W0) Tryz.f3.ntmps S a w
/-- how the law ends -/
def Fin (t0 t1 : TypeId) (a0 a1 : Addr) (W0 : World) (e : Ending) (w' : World) : Prop :=
  ∃ ρ h' nx', After Tryz.prog ρ (ioE a0 a1) (h00 t0 t1) W0 18 (.bool true) h' nx' e w' ∧ h'.get 0 = some (.cells t0 [.iface 768 (.ptr 16 0)] true true none) ∧ h'.get 1 = some (.cells t1 [.iface 768 (.ptr 17 0)] true true none)
variable (hQ : ∀ a w, LeavesInM (W none) m Tryz.prog Tryz.f3 a.tmps (Fin t0 t1 a0 a1 W0) a.defers .returning w → Q .ret a w)
include hQ

theorem fin_ok {a : Act} {w : World} (hΓ : Γfin.ok ρ) (hg : AtL t0 t1 a0 a1 W0 ρ (SE' t0 t1) a w) (N : Nat) (hN : N = (envL Γfin P0 exts0).rounds) :
    Code.roundsIn (W none) m Tryz.prog lb2 (Exit.inBlock 2 (Exit.then (lawT.wpIn (W none) m Tryz.prog Q) Q)) N a w := by
  obtain ⟨s1, s2, v, h2, nx2, e1, e2, e3, e4⟩ := finO_some (fin t0 t1)
  rw [ex_loop_eq, ← hN] at e1
  have hP := progs_ok hΓ
  have hE := envL_ok hP
  refine rounds_mono ?_ N a w (iter_rounds hE rfl ok2 N _ _ a w e1 trivial (hg.env rfl))
  intro e a w hp
  obtain ⟨he, hg1⟩ := hp
  subst he
  suffices hh : lawT.wpIn (W none) m Tryz.prog Q a w by
    show (if 2 = 2 then Exit.then (lawT.wpIn (W none) m Tryz.prog Q) Q .normal a w else Exit.then (lawT.wpIn (W none) m Tryz.prog Q) Q (.exit 2) a w)
    rw [if_pos rfl]
    exact hh
  have ih := ex_ok hE (ro := none) (m := m) (fun _ => rfl) lawT s1 a w okT (by rw [e2]; trivial) hg1
  rw [e2] at ih
  refine wpIn_mono ih ?_
  intro e a2 w2 hp
  obtain ⟨he, hg2⟩ := hp
  subst he
  refine hQ a2 w2 (finish_to hE hg2 e3 ?_)
  intro e w' haf
  injection e4 with q1 q2
  injection q2 with q2 q3
  subst q1
  exact ⟨ρ, h2, nx2, haf, q2, q3⟩

/-- the second span: after the first 'echo' of the end -/
theorem z2_ok : ∀ (n : Nat) (ρ : Val) (a : Act) (w : World), Cd E M G ρ → 0 ≤ ρ 19 → 0 ≤ ρ 21 → ρ 21 ≤ 20000 → 1 ≤ ρ 22 → ρ 21 + 3000 ≤ ρ 20 → ρ 20 < ρ 21 + 3000 + E → ρ 19 < ρ 20 + 3000 → ρ 21 + E + 100 * (ρ 22 - 1) ≤ ρ 19 →
    61 ≤ ρ 22 + (n : Int) → AtL t0 t1 a0 a1 W0 ρ (SE' t0 t1) a w →
    Code.roundsIn (W none) m Tryz.prog lb2 (Exit.inBlock 2 (Exit.then (lawT.wpIn (W none) m Tryz.prog Q) Q)) (n + 100000) a w
  | 0, ρ, a, w, hc, h19, h21, h21', h22, g1, g2, g3, g4, hn, hg => by omega
  | n + 1, ρ, a, w, hc, h19, h21, h21', h22, g1, g2, g3, g4, hn, hg => by
    have := hc.e0
    have := hc.e1
    have he := hc.e
    by_cases hd : ρ 19 + E < ρ 20 + 3000
    · rw [show n + 1 + 100000 = (n + 100000) + 1 by omega]
      have hΓ : Γidle2.ok ρ := Γidle2_ok hc ⟨by omega, by omega⟩ ⟨by omega, by omega⟩ ⟨by omega, by omega⟩ ⟨by omega, by omega⟩ (by omega) hd g2
      refine wpIn_mono (seg1 (C := SE' t0 t1) baseE (progs_ok hΓ) (m := m) (idle t0 t1) rfl (low_of empE) ok2 rfl rfl hg) ?_
      rintro e a1 w1 ⟨⟨x, hx, hx2⟩, hg1⟩
      cases x with
      | ret => cases hx
      | exit i => cases hx
      | norm =>
        have hx2 : e = .normal := hx2
        subst hx2
        have e19 : rhoOf τi ρ 19 = ρ 16 + ρ 19 := by rw [rhoOf_eq (p := (19, ⟨0, [(16, 1), (19, 1)]⟩)) rfl]; simp only [Lin.eval, termsEval]; omega
        have e22 : rhoOf τi ρ 22 = ρ 22 + 1 := by rw [rhoOf_eq (p := (22, ⟨1, [(22, 1)]⟩)) rfl]; simp only [Lin.eval, termsEval]; omega
        have e20 : rhoOf τi ρ 20 = ρ 20 := rhoOf_id rfl
        have e21 : rhoOf τi ρ 21 = ρ 21 := rhoOf_id rfl
        exact z2_ok n (rhoOf τi ρ) a1 w1 (hc.turn rfl rfl rfl rfl) (by omega) (by omega) (by omega) (by omega) (by omega) (by omega) (by omega) (by omega) (by omega) hg1
    · have hΓ : Γfin.ok ρ := Γfin_ok hc ⟨by omega, by omega⟩ ⟨by omega, by omega⟩ ⟨by omega, by omega⟩ ⟨by omega, by omega⟩ (by omega) (by omega) g2 g1 g3
      exact rounds_add (n + 1) 100000 a w (fin_ok hQ hΓ hg 100000 rfl)

/-- the first span -/
theorem z1_ok {k : Nat} (hk1 : 1 ≤ k) (hk2 : k ≤ 12) : ∀ (n : Nat) (ρ : Val) (a : Act) (w : World), Cd E M G ρ → 0 ≤ ρ 19 → 0 ≤ ρ 20 → ρ 20 ≤ 100000 → 0 ≤ ρ 21 → ρ 21 ≤ 20000 → 0 ≤ ρ 22 → ρ 19 < ρ 21 + 3000 → ρ 21 + 100 * ρ 22 ≤ ρ 19 →
    30 ≤ ρ 22 + (n : Int) → AtL t0 t1 a0 a1 W0 ρ (SD k t0 t1) a w →
    Code.roundsIn (W none) m Tryz.prog lb2 (Exit.inBlock 2 (Exit.then (lawT.wpIn (W none) m Tryz.prog Q) Q)) (n + (61 + 100000)) a w
  | 0, ρ, a, w, hc, h19, h20, h20', h21, h21', h22, g3, g4, hn, hg => by omega
  | n + 1, ρ, a, w, hc, h19, h20, h20', h21, h21', h22, g3, g4, hn, hg => by
    have := hc.e0
    have := hc.e1
    have he := hc.e
    rw [show n + 1 + (61 + 100000) = (n + (61 + 100000)) + 1 by omega]
    by_cases hd : ρ 19 + E < ρ 21 + 3000
    · have hΓ : Γidle.ok ρ := Γidle_ok hc ⟨by omega, by omega⟩ ⟨by omega, by omega⟩ ⟨by omega, by omega⟩ ⟨by omega, by omega⟩ (by omega) hd
      refine wpIn_mono (seg1 (C := SD k t0 t1) baseE (progs_ok hΓ) (m := m) (idle_all k hk1 hk2 t0 t1) rfl (low_of (empD k)) ok2 rfl rfl hg) ?_
      rintro e a1 w1 ⟨⟨x, hx, hx2⟩, hg1⟩
      cases x with
      | ret => cases hx
      | exit i => cases hx
      | norm =>
        have hx2 : e = .normal := hx2
        subst hx2
        have e19 : rhoOf τi ρ 19 = ρ 16 + ρ 19 := by rw [rhoOf_eq (p := (19, ⟨0, [(16, 1), (19, 1)]⟩)) rfl]; simp only [Lin.eval, termsEval]; omega
        have e22 : rhoOf τi ρ 22 = ρ 22 + 1 := by rw [rhoOf_eq (p := (22, ⟨1, [(22, 1)]⟩)) rfl]; simp only [Lin.eval, termsEval]; omega
        have e20 : rhoOf τi ρ 20 = ρ 20 := rhoOf_id rfl
        have e21 : rhoOf τi ρ 21 = ρ 21 := rhoOf_id rfl
        exact z1_ok hk1 hk2 n (rhoOf τi ρ) a1 w1 (hc.turn rfl rfl rfl rfl) (by omega) (by omega) (by omega) (by omega) (by omega) (by omega) (by omega) (by omega) (by omega) hg1
    · have hΓ : Γfirst.ok ρ := Γfirst_ok hc ⟨by omega, by omega⟩ ⟨by omega, by omega⟩ ⟨by omega, by omega⟩ ⟨by omega, by omega⟩ (by omega) (by omega) g3
      refine wpIn_mono (seg1 (C := SE' t0 t1) baseE (progs_ok hΓ) (m := m) (first_all k hk1 hk2 t0 t1) rfl (low_of empE) ok2 rfl rfl hg) ?_
      rintro e a1 w1 ⟨⟨x, hx, hx2⟩, hg1⟩
      cases x with
      | ret => cases hx
      | exit i => cases hx
      | norm =>
        have hx2 : e = .normal := hx2
        subst hx2
        have e19 : rhoOf τf ρ 19 = ρ 16 + ρ 19 := by rw [rhoOf_eq (p := (19, ⟨0, [(16, 1), (19, 1)]⟩)) rfl]; simp only [Lin.eval, termsEval]; omega
        have e20 : rhoOf τf ρ 20 = ρ 16 + ρ 19 := by rw [rhoOf_eq (p := (20, ⟨0, [(16, 1), (19, 1)]⟩)) rfl]; simp only [Lin.eval, termsEval]; omega
        have e22 : rhoOf τf ρ 22 = ρ 22 + 1 := by rw [rhoOf_eq (p := (22, ⟨1, [(22, 1)]⟩)) rfl]; simp only [Lin.eval, termsEval]; omega
        have e21 : rhoOf τf ρ 21 = ρ 21 := rhoOf_id rfl
        show Code.roundsIn (W none) m Tryz.prog lb2 _ (n + (61 + 100000)) a1 w1
        rw [show n + (61 + 100000) = (n + 61) + 100000 by omega]
        exact z2_ok hQ (n + 61) (rhoOf τf ρ) a1 w1 (hc.turn rfl rfl rfl rfl) (by omega) (by omega) (by omega) (by omega) (by omega) (by omega) (by omega) (by omega) (by omega) hg1

/-- the end: the link goes down, twice -/
theorem end_ok {k : Nat} (hk1 : 1 ≤ k) (hk2 : k ≤ 12) {a : Act} {w : World} (hc : Cd E M G ρ) (h19 : 0 ≤ ρ 19 ∧ ρ 19 ≤ 1000000) (h20 : ρ 20 = M) (h21 : 0 ≤ ρ 21 ∧ ρ 21 ≤ 100000) (h22 : 0 ≤ ρ 22 ∧ ρ 22 ≤ 70)
    (hg : AtL t0 t1 a0 a1 W0 ρ (SU k (nowK k) (nowK (k + 1)) t0 t1) a w) : lawB.wpIn (W none) m Tryz.prog Q a w := by
  refine seg (C := SD0 k t0 t1) baseE (progs_ok (Γend_ok hc h19 h21 h22 h20)) (end_all k hk1 hk2 t0 t1) rfl (low_of (empD k)) shB okLB rfl rfl hg ?_
  intro a1 w1 hg1
  have hc1 : Cd E M G (rhoOf (τk ((k + 1 : Nat) : Int)) ρ) := hc.turn rfl rfl rfl rfl
  have := hc.e0
  have := hc.e1
  have he := hc.e
  have := hc.m0
  have := hc.m1
  have e19 : rhoOf (τk ((k + 1 : Nat) : Int)) ρ 19 = ((k + 1 : Nat) : Int) * ρ 16 := by rw [rhoOf_eq (p := (19, ⟨0, [(16, ((k + 1 : Nat) : Int))]⟩)) rfl]; simp only [Lin.eval, termsEval]; omega
  have e21 : rhoOf (τk ((k + 1 : Nat) : Int)) ρ 21 = ((k + 1 : Nat) : Int) * ρ 16 := by rw [rhoOf_eq (p := (21, ⟨0, [(16, ((k + 1 : Nat) : Int))]⟩)) rfl]; simp only [Lin.eval, termsEval]; omega
  have e20 : rhoOf (τk ((k + 1 : Nat) : Int)) ρ 20 = ρ 20 := rhoOf_id rfl
  have e22 : rhoOf (τk ((k + 1 : Nat) : Int)) ρ 22 = ρ 22 := rhoOf_id rfl
  generalize rhoOf (τk ((k + 1 : Nat) : Int)) ρ = ρ1 at hg1 hc1 e19 e20 e21 e22
  have b1 : ((k + 1 : Nat) : Int) * ρ 16 ≤ 13 * 1123 := Int.mul_le_mul (by omega) (by omega) (by omega) (by decide)
  have b0 : 0 ≤ ((k + 1 : Nat) : Int) * ρ 16 := Int.mul_nonneg (by omega) (by omega)
  generalize ((k + 1 : Nat) : Int) * ρ 16 = tt at e19 e21 b0 b1
  rw [eqLB]
  refine wpIn_seq ?_
  refine seg (C := SD k t0 t1) baseE (progs_ok (Γend_ok hc1 ⟨by omega, by omega⟩ ⟨by omega, by omega⟩ ⟨by omega, by omega⟩ (by omega))) (cnt_all k hk1 hk2 t0 t1) rfl (low_of (empD k)) shA2 okA2 rfl rfl hg1 ?_
  intro a2 w2 hg2
  have hc2 : Cd E M G (rhoOf τc ρ1) := hc1.turn rfl rfl rfl rfl
  have f19 : rhoOf τc ρ1 19 = ρ1 19 := rhoOf_id rfl
  have f20 : rhoOf τc ρ1 20 = ρ1 20 := rhoOf_id rfl
  have f21 : rhoOf τc ρ1 21 = ρ1 21 := rhoOf_id rfl
  have f22 : rhoOf τc ρ1 22 = 0 := by rw [rhoOf_eq (p := (22, ⟨0, []⟩)) rfl]; simp only [Lin.eval, termsEval]; omega
  rw [eqA2]
  refine wpIn_block ?_
  refine wpIn_loop_rounds (30 + (61 + 100000)) ?_
  exact z1_ok hQ hk1 hk2 30 (rhoOf τc ρ1) a2 w2 hc2 (by omega) (by omega) (by omega) (by omega) (by omega) (by omega) (by omega) (by omega) (by omega) hg2

/-- the ticks -/
theorem ticks_ok : ∀ (j k : Nat) (ρ : Val) (a : Act) (w : World), k + j = 12 → Cd E M G ρ → (k : Int) ≤ G + M → ((k : Int) ≤ G → ρ 20 = 0) → (G ≤ (k : Int) → ρ 20 = (k : Int) - G) →
    (0 ≤ ρ 19 ∧ ρ 19 ≤ 1000000) → (0 ≤ ρ 21 ∧ ρ 21 ≤ 100000) → (0 ≤ ρ 22 ∧ ρ 22 ≤ 70) → AtL t0 t1 a0 a1 W0 ρ (SU k (nowK k) (nowK (k + 1)) t0 t1) a w →
    Code.roundsIn (W none) m Tryz.prog lb1 (Exit.inBlock 0 (Exit.then (lawB.wpIn (W none) m Tryz.prog Q) Q)) (j + 1) a w := by
  intro j
  induction j with
  | zero => 
    intro k ρ a w hj hc hk w0 w1 h19 h21 h22 hg
    have := hc.m1; have := hc.m0; have := hc.g1; have := hc.g0
    have hk : k = 12 := by omega
    subst hk
    have hΓ := Γexit_ok hc h19 h21 h22 (k := ((12 : Nat) : Int)) (by omega) (by omega)
    refine wpIn_mono (seg1 (C := SU 12 (nowK 12) (nowK 13) t0 t1) baseE (progs_ok hΓ) (m := m) (exit_all 12 (by decide) (by decide) t0 t1) rfl (low_of (empU _ _ _)) ok1 rfl rfl hg) ?_
    rintro e a1 w1 ⟨⟨x, hx, hx2⟩, hg1⟩
    cases x with
    | ret => cases hx
    | norm => cases hx
    | exit i =>
      have hx2 : e = .exit i := hx2
      have hx := beqN hx
      subst hx2 hx
      rw [rhoOf_nil] at hg1
      exact end_ok hQ (by decide) (by decide) hc h19 (by omega) h21 h22 hg1
  | succ j ih =>
    intro k ρ a w hj hc hk w0 w1 h19 h21 h22 hg
    have := hc.m1; have := hc.m0; have := hc.g1; have := hc.g0
    by_cases c1 : (k : Int) < G
    · have hΓ := Γgood_ok hc h19 h21 h22 (k := (k : Int)) (by omega) c1
      refine wpIn_mono (seg1 (C := SU (k + 1) (nowK (k + 1)) (nowK (k + 2)) t0 t1) baseE (progs_ok hΓ) (m := m) (good_all k (by omega) (by omega) t0 t1) rfl (low_of (empU _ _ _)) ok1 rfl rfl hg) ?_
      rintro e a1 w1 ⟨⟨x, hx, hx2⟩, hg1⟩
      cases x with
      | ret => cases hx
      | exit i => cases hx
      | norm =>
        have hx2 : e = .normal := hx2
        subst hx2
        have e19 : rhoOf τ0 ρ 19 = ρ 19 := rhoOf_id rfl
        have e20 : rhoOf τ0 ρ 20 = 0 := by rw [rhoOf_eq (p := (20, ⟨0, []⟩)) rfl]; simp only [Lin.eval, termsEval]; omega
        have e21 : rhoOf τ0 ρ 21 = ρ 21 := rhoOf_id rfl
        have e22 : rhoOf τ0 ρ 22 = ρ 22 := rhoOf_id rfl
        exact ih (k + 1) (rhoOf τ0 ρ) a1 w1 (by omega) (hc.turn rfl rfl rfl rfl) (by omega) (by omega) (by omega) (by omega) (by omega) (by omega) hg1
    · by_cases c2 : (k : Int) < G + M
      · have hΓ := Γsil_ok hc h19 h21 h22 (k := (k : Int)) (by omega) (by omega) c2
        refine wpIn_mono (seg1 (C := SU (k + 1) (nowK (k + 1)) (nowK (k + 2)) t0 t1) baseE (progs_ok hΓ) (m := m) (sil_all k (by omega) (by omega) t0 t1) rfl (low_of (empU _ _ _)) ok1 rfl rfl hg) ?_
        rintro e a1 w1 ⟨⟨x, hx, hx2⟩, hg1⟩
        cases x with
        | ret => cases hx
        | exit i => cases hx
        | norm =>
          have hx2 : e = .normal := hx2
          subst hx2
          have e19 : rhoOf τ1 ρ 19 = ρ 19 := rhoOf_id rfl
          have e20 : rhoOf τ1 ρ 20 = 1 + ρ 20 := by rw [rhoOf_eq (p := (20, ⟨1, [(20, 1)]⟩)) rfl]; simp only [Lin.eval, termsEval]; omega
          have e21 : rhoOf τ1 ρ 21 = ρ 21 := rhoOf_id rfl
          have e22 : rhoOf τ1 ρ 22 = ρ 22 := rhoOf_id rfl
          exact ih (k + 1) (rhoOf τ1 ρ) a1 w1 (by omega) (hc.turn rfl rfl rfl rfl) (by omega) (by omega) (by omega) (by omega) (by omega) (by omega) hg1
      · have hΓ := Γexit_ok hc h19 h21 h22 (k := (k : Int)) (by omega) (by omega)
        refine wpIn_mono (seg1 (C := SU k (nowK k) (nowK (k + 1)) t0 t1) baseE (progs_ok hΓ) (m := m) (exit_all k (by omega) (by omega) t0 t1) rfl (low_of (empU _ _ _)) ok1 rfl rfl hg) ?_
        rintro e a1 w1 ⟨⟨x, hx, hx2⟩, hg1⟩
        cases x with
        | ret => cases hx
        | norm => cases hx
        | exit i =>
          have hx2 : e = .exit i := hx2
          have hx := beqN hx
          subst hx2 hx
          rw [rhoOf_nil] at hg1
          exact end_ok hQ (by omega) (by omega) hc h19 (by omega) h21 h22 hg1

/-- from the joined links on -/
theorem flow_ok {a : Act} {w : World} (hc : Cd E M G ρ) (h19 : 0 ≤ ρ 19 ∧ ρ 19 ≤ 1000000) (h20 : ρ 20 = 0) (h21 : 0 ≤ ρ 21 ∧ ρ 21 ≤ 100000) (h22 : 0 ≤ ρ 22 ∧ ρ 22 ≤ 70) (hg : AtL t0 t1 a0 a1 W0 ρ (SJ t0 t1) a w) : lawF.wpIn (W none) m Tryz.prog Q a w := by
  refine seg (C := ⟨T.set (tmW .e) 13 (iI 0), [], wE t0 t1 (hU 0 now0 now1), 63⟩) baseE (progs_ok (Γf_ok hc h19 h20 h21 h22)) (runx t0 t1) rfl (low_of (empU _ _ _)) shF okF rfl rfl hg ?_
  intro a1 w1 hg1
  have hc1 : Cd E M G (rhoOf τ0 ρ) := hc.turn rfl rfl rfl rfl
  have e19 : rhoOf τ0 ρ 19 = ρ 19 := rhoOf_id rfl
  have e20 : rhoOf τ0 ρ 20 = 0 := by rw [rhoOf_eq (p := (20, ⟨0, []⟩)) rfl]; simp only [Lin.eval, termsEval]; omega
  have e21 : rhoOf τ0 ρ 21 = ρ 21 := rhoOf_id rfl
  have e22 : rhoOf τ0 ρ 22 = ρ 22 := rhoOf_id rfl
  generalize rhoOf τ0 ρ = ρ1 at hg1 hc1 e19 e20 e21 e22
  rw [eqF]
  refine wpIn_seq ?_
  refine seg (C := SU 0 now0 now1 t0 t1) baseE (progs_ok (Γf_ok hc1 (by omega) e20 (by omega) (by omega))) (runx0 t0 t1) rfl (low_of (empU _ _ _)) shA okA rfl rfl hg1 ?_
  intro a2 w2 hg2
  rw [rhoOf_nil] at hg2
  rw [eqLA]
  refine wpIn_block ?_
  refine wpIn_loop_rounds 13 ?_
  have := hc.m0; have := hc.g0
  exact ticks_ok hQ 12 0 ρ1 a2 w2 rfl hc1 (by omega) (by omega) (by omega) (by omega) (by omega) (by omega) hg2
end
end Go.Proofs.YtoklobcagaolmaaGreatDoor.SE

namespace Go.Proofs.YtoklobcagaolmaaGreatDoor.SE
open Go.Proofs
set_option maxRecDepth 100000
variable {ρ : Val}

section
variable {t0 t1 : TypeId} {a0 a1 : Addr} {W0 : World} {m : Nat} {Q : Exit → Act → World → Prop} {a b c : Int}
  (ha : -9223372036854775808 ≤ a ∧ a ≤ 9223372036854775807) (hb : -9223372036854775808 ≤ b ∧ b ≤ 9223372036854775807) (hc : -9223372036854775808 ≤ c ∧ c ≤ 9223372036854775807)
include ha hb hc
theorem rhoE_low (i : Nat) (_ : i < 16) : -18446744073709551616 ≤ rhoE a b c i ∧ rhoE a b c i ≤ 18446744073709551616 := by
  have l1 := eE_le a
  have l2 := eM_le b
  have l3 := eG_le c
  rcases i with _ | _ | _ | _ | _ | _ | _ | _ | _ | _ | i <;> (simp only [rhoE, Nat.zero_add]; omega)
theorem cd3 (h : eE a ≤ 999) : Cd (eE a) (eM b) (eG c) (rhoOf τj3 (rhoE a b c)) := by
  have l1 := eE_le a
  have l2 := eM_le b
  have l3 := eG_le c
  refine ⟨fun i hi => by rw [rhoOf_low rfl hi]; exact rhoE_low ha hb hc i hi, ?_, ?_, ?_, l1.1, l1.2, l2.1, l2.2, l3.1, l3.2⟩
  · rw [rhoOf_eq (p := (16, ⟨(-5328), [(4, 1), (5, 10), (6, 100)]⟩)) rfl]; simp only [Lin.eval, termsEval, rhoE]; omega
  · rw [rhoOf_eq (p := (17, ⟨(-48), [(8, 1)]⟩)) rfl]; simp only [Lin.eval, termsEval, rhoE]; omega
  · rw [rhoOf_eq (p := (18, ⟨0, [(9, 1)]⟩)) rfl]; simp only [Lin.eval, termsEval, rhoE]; omega
theorem cd4 (h : 1000 ≤ eE a) : Cd (eE a) (eM b) (eG c) (rhoOf τj4 (rhoE a b c)) := by
  have l1 := eE_le a
  have l2 := eM_le b
  have l3 := eG_le c
  refine ⟨fun i hi => by rw [rhoOf_low rfl hi]; exact rhoE_low ha hb hc i hi, ?_, ?_, ?_, l1.1, l1.2, l2.1, l2.2, l3.1, l3.2⟩
  · rw [rhoOf_eq (p := (16, ⟨(-53328), [(4, 1), (5, 10), (6, 100), (7, 1000)]⟩)) rfl]; simp only [Lin.eval, termsEval, rhoE]; omega
  · rw [rhoOf_eq (p := (17, ⟨(-48), [(8, 1)]⟩)) rfl]; simp only [Lin.eval, termsEval, rhoE]; omega
  · rw [rhoOf_eq (p := (18, ⟨0, [(9, 1)]⟩)) rfl]; simp only [Lin.eval, termsEval, rhoE]; omega
variable (hQ : ∀ a w, LeavesInM (W none) m Tryz.prog Tryz.f3 a.tmps (Fin t0 t1 a0 a1 W0) a.defers .returning w → Q .ret a w)
include hQ
theorem join3 (h : eE a ≤ 999) {a' : Act} {w : World} (hg : AtL t0 t1 a0 a1 W0 (rhoE a b c) (S03 t0 t1) a' w) : lawJ.wpIn (W none) m Tryz.prog Q a' w := by
  refine seg (C := SJ t0 t1) baseE (progs_ok (ctxj3_ok ha hb hc h)) (runj3 t0 t1) rfl (low_of empJ) shJ okJ rfl rfl hg ?_
  intro a1' w1 hg1
  have e : ∀ i, 19 ≤ i → rhoOf τj3 (rhoE a b c) i = 0 := by
    intro i hi
    have : (τj3.find? fun p => Nat.beq p.1 i) = none := by
      rw [List.find?_eq_none]
      intro x hx
      simp only [τj3, List.mem_cons, List.mem_nil_iff, or_false] at hx
      rcases hx with rfl | rfl | rfl <;> (intro hb; have := Nat.eq_of_beq_eq_true hb; simp only at this; omega)
    rw [rhoOf_id this]
    rcases i with _ | _ | _ | _ | _ | _ | _ | _ | _ | _ | i <;> first | omega | rfl
  have e19 := e 19 (by omega)
  have e20 := e 20 (by omega)
  have e21 := e 21 (by omega)
  have e22 := e 22 (by omega)
  exact flow_ok hQ (cd3 ha hb hc h) ⟨by omega, by omega⟩ e20 ⟨by omega, by omega⟩ ⟨by omega, by omega⟩ hg1
theorem join4 (h : 1000 ≤ eE a) {a' : Act} {w : World} (hg : AtL t0 t1 a0 a1 W0 (rhoE a b c) (S04 t0 t1) a' w) : lawJ.wpIn (W none) m Tryz.prog Q a' w := by
  refine seg (C := SJ t0 t1) baseE (progs_ok (ctxj4_ok ha hb hc h)) (runj4 t0 t1) rfl (low_of empJ) shJ okJ rfl rfl hg ?_
  intro a1' w1 hg1
  have e : ∀ i, 19 ≤ i → rhoOf τj4 (rhoE a b c) i = 0 := by
    intro i hi
    have : (τj4.find? fun p => Nat.beq p.1 i) = none := by
      rw [List.find?_eq_none]
      intro x hx
      simp only [τj4, List.mem_cons, List.mem_nil_iff, or_false] at hx
      rcases hx with rfl | rfl | rfl <;> (intro hb; have := Nat.eq_of_beq_eq_true hb; simp only at this; omega)
    rw [rhoOf_id this]
    rcases i with _ | _ | _ | _ | _ | _ | _ | _ | _ | _ | i <;> first | omega | rfl
  have e19 := e 19 (by omega)
  have e20 := e 20 (by omega)
  have e21 := e 21 (by omega)
  have e22 := e 22 (by omega)
  exact flow_ok hQ (cd4 ha hb hc h) ⟨by omega, by omega⟩ e20 ⟨by omega, by omega⟩ ⟨by omega, by omega⟩ hg1
theorem law_ok {a' : Act} {w : World} (hg : AtL t0 t1 a0 a1 W0 (rhoE a b c) (S00 t0 t1) a' w) : law.wpIn (W none) m Tryz.prog Q a' w := by
  have l1 := eE_le a
  have l2 := eM_le b
  have l3 := eG_le c
  by_cases h : eE a ≤ 999
  · have go : ∀ (cE cM cG : Int) (bE bM bG : Bool), (Γ03 cE cM cG bE bM bG).ok (rhoE a b c) →
        (∀ t0 t1, segT (exs (items 4 law) (envL (Γ03 cE cM cG bE bM bG) P0 exts0) (S00 t0 t1)) isNorm 18 18 s18 [] (S03 t0 t1).tm (h00 t0 t1) = (true, t0, t1)) → law.wpIn (W none) m Tryz.prog Q a' w := by
      intro cE cM cG bE bM bG hΓ hrun
      refine seg (C := S03 t0 t1) baseE (progs_ok hΓ) (hrun t0 t1) rfl low_00 shL okL rfl rfl hg ?_
      intro a1' w1 hg1
      rw [rhoOf_nil] at hg1
      exact join3 ha hb hc hQ h hg1
    by_cases h1 : a.tmod 1024 < 0 <;> by_cases h2 : b.tmod 5 < 0 <;> by_cases h3 : c.tmod 8 < 0
    · exact go (-6452) (-54) (-8) true true true (ctx03_ok ha hb hc h (by simp only [rhoE]; unfold eE cnt at *; rw [if_pos h1] at *; omega) (by simp only [rhoE]; unfold eM cnt; rw [if_pos h2]; omega) (by simp only [rhoE]; unfold eG cnt; rw [if_pos h3]; omega) (decide_eq_true h1) (decide_eq_true h2) (decide_eq_true h3)) run03111
    · exact go (-6452) (-54) (0) true true false (ctx03_ok ha hb hc h (by simp only [rhoE]; unfold eE cnt at *; rw [if_pos h1] at *; omega) (by simp only [rhoE]; unfold eM cnt; rw [if_pos h2]; omega) (by simp only [rhoE]; unfold eG cnt; rw [if_neg h3]; omega) (decide_eq_true h1) (decide_eq_true h2) (decide_eq_false h3)) run03110
    · exact go (-6452) (-49) (-8) true false true (ctx03_ok ha hb hc h (by simp only [rhoE]; unfold eE cnt at *; rw [if_pos h1] at *; omega) (by simp only [rhoE]; unfold eM cnt; rw [if_neg h2]; omega) (by simp only [rhoE]; unfold eG cnt; rw [if_pos h3]; omega) (decide_eq_true h1) (decide_eq_false h2) (decide_eq_true h3)) run03101
    · exact go (-6452) (-49) (0) true false false (ctx03_ok ha hb hc h (by simp only [rhoE]; unfold eE cnt at *; rw [if_pos h1] at *; omega) (by simp only [rhoE]; unfold eM cnt; rw [if_neg h2]; omega) (by simp only [rhoE]; unfold eG cnt; rw [if_neg h3]; omega) (decide_eq_true h1) (decide_eq_false h2) (decide_eq_false h3)) run03100
    · exact go (-5428) (-54) (-8) false true true (ctx03_ok ha hb hc h (by simp only [rhoE]; unfold eE cnt at *; rw [if_neg h1] at *; omega) (by simp only [rhoE]; unfold eM cnt; rw [if_pos h2]; omega) (by simp only [rhoE]; unfold eG cnt; rw [if_pos h3]; omega) (decide_eq_false h1) (decide_eq_true h2) (decide_eq_true h3)) run03011
    · exact go (-5428) (-54) (0) false true false (ctx03_ok ha hb hc h (by simp only [rhoE]; unfold eE cnt at *; rw [if_neg h1] at *; omega) (by simp only [rhoE]; unfold eM cnt; rw [if_pos h2]; omega) (by simp only [rhoE]; unfold eG cnt; rw [if_neg h3]; omega) (decide_eq_false h1) (decide_eq_true h2) (decide_eq_false h3)) run03010
    · exact go (-5428) (-49) (-8) false false true (ctx03_ok ha hb hc h (by simp only [rhoE]; unfold eE cnt at *; rw [if_neg h1] at *; omega) (by simp only [rhoE]; unfold eM cnt; rw [if_neg h2]; omega) (by simp only [rhoE]; unfold eG cnt; rw [if_pos h3]; omega) (decide_eq_false h1) (decide_eq_false h2) (decide_eq_true h3)) run03001
    · exact go (-5428) (-49) (0) false false false (ctx03_ok ha hb hc h (by simp only [rhoE]; unfold eE cnt at *; rw [if_neg h1] at *; omega) (by simp only [rhoE]; unfold eM cnt; rw [if_neg h2]; omega) (by simp only [rhoE]; unfold eG cnt; rw [if_neg h3]; omega) (decide_eq_false h1) (decide_eq_false h2) (decide_eq_false h3)) run03000
  · have h : 1000 ≤ eE a := by omega
    have go : ∀ (cE cM cG : Int) (bE bM bG : Bool), (Γ04 cE cM cG bE bM bG).ok (rhoE a b c) →
        (∀ t0 t1, segT (exs (items 4 law) (envL (Γ04 cE cM cG bE bM bG) P0 exts0) (S00 t0 t1)) isNorm 18 18 s18 [] (S04 t0 t1).tm (h00 t0 t1) = (true, t0, t1)) → law.wpIn (W none) m Tryz.prog Q a' w := by
      intro cE cM cG bE bM bG hΓ hrun
      refine seg (C := S04 t0 t1) baseE (progs_ok hΓ) (hrun t0 t1) rfl low_00 shL okL rfl rfl hg ?_
      intro a1' w1 hg1
      rw [rhoOf_nil] at hg1
      exact join4 ha hb hc hQ h hg1
    by_cases h1 : a.tmod 1024 < 0 <;> by_cases h2 : b.tmod 5 < 0 <;> by_cases h3 : c.tmod 8 < 0
    · exact go (-54452) (-54) (-8) true true true (ctx04_ok ha hb hc h (by simp only [rhoE]; unfold eE cnt at *; rw [if_pos h1] at *; omega) (by simp only [rhoE]; unfold eM cnt; rw [if_pos h2]; omega) (by simp only [rhoE]; unfold eG cnt; rw [if_pos h3]; omega) (decide_eq_true h1) (decide_eq_true h2) (decide_eq_true h3)) run04111
    · exact go (-54452) (-54) (0) true true false (ctx04_ok ha hb hc h (by simp only [rhoE]; unfold eE cnt at *; rw [if_pos h1] at *; omega) (by simp only [rhoE]; unfold eM cnt; rw [if_pos h2]; omega) (by simp only [rhoE]; unfold eG cnt; rw [if_neg h3]; omega) (decide_eq_true h1) (decide_eq_true h2) (decide_eq_false h3)) run04110
    · exact go (-54452) (-49) (-8) true false true (ctx04_ok ha hb hc h (by simp only [rhoE]; unfold eE cnt at *; rw [if_pos h1] at *; omega) (by simp only [rhoE]; unfold eM cnt; rw [if_neg h2]; omega) (by simp only [rhoE]; unfold eG cnt; rw [if_pos h3]; omega) (decide_eq_true h1) (decide_eq_false h2) (decide_eq_true h3)) run04101
    · exact go (-54452) (-49) (0) true false false (ctx04_ok ha hb hc h (by simp only [rhoE]; unfold eE cnt at *; rw [if_pos h1] at *; omega) (by simp only [rhoE]; unfold eM cnt; rw [if_neg h2]; omega) (by simp only [rhoE]; unfold eG cnt; rw [if_neg h3]; omega) (decide_eq_true h1) (decide_eq_false h2) (decide_eq_false h3)) run04100
    · exact go (-53428) (-54) (-8) false true true (ctx04_ok ha hb hc h (by simp only [rhoE]; unfold eE cnt at *; rw [if_neg h1] at *; omega) (by simp only [rhoE]; unfold eM cnt; rw [if_pos h2]; omega) (by simp only [rhoE]; unfold eG cnt; rw [if_pos h3]; omega) (decide_eq_false h1) (decide_eq_true h2) (decide_eq_true h3)) run04011
    · exact go (-53428) (-54) (0) false true false (ctx04_ok ha hb hc h (by simp only [rhoE]; unfold eE cnt at *; rw [if_neg h1] at *; omega) (by simp only [rhoE]; unfold eM cnt; rw [if_pos h2]; omega) (by simp only [rhoE]; unfold eG cnt; rw [if_neg h3]; omega) (decide_eq_false h1) (decide_eq_true h2) (decide_eq_false h3)) run04010
    · exact go (-53428) (-49) (-8) false false true (ctx04_ok ha hb hc h (by simp only [rhoE]; unfold eE cnt at *; rw [if_neg h1] at *; omega) (by simp only [rhoE]; unfold eM cnt; rw [if_neg h2]; omega) (by simp only [rhoE]; unfold eG cnt; rw [if_pos h3]; omega) (decide_eq_false h1) (decide_eq_false h2) (decide_eq_true h3)) run04001
    · exact go (-53428) (-49) (0) false false false (ctx04_ok ha hb hc h (by simp only [rhoE]; unfold eE cnt at *; rw [if_neg h1] at *; omega) (by simp only [rhoE]; unfold eM cnt; rw [if_neg h2]; omega) (by simp only [rhoE]; unfold eG cnt; rw [if_neg h3]; omega) (decide_eq_false h1) (decide_eq_false h2) (decide_eq_false h3)) run04000
end
end Go.Proofs.YtoklobcagaolmaaGreatDoor.SE

namespace Go.Proofs.YtoklobcagaolmaaGreatDoor.SE
open Go.Proofs
set_option maxRecDepth 100000
section
variable {W : World} {t0 t1 : TypeId} {a0 a1 : Addr} {a b c d : Int}
  (ha : -9223372036854775808 ≤ a ∧ a ≤ 9223372036854775807) (hb : -9223372036854775808 ≤ b ∧ b ≤ 9223372036854775807) (hc : -9223372036854775808 ≤ c ∧ c ≤ 9223372036854775807)
  (h0 : W.heap[0]? = some (.cells #[.iface 768 (.pointer (some a0))] t0 (0, 0))) (s0 : a0.spot = none)
  (h1 : W.heap[1]? = some (.cells #[.iface 768 (.pointer (some a1))] t1 (0, 0))) (s1 : a1.spot = none)
include ha hb hc h0 s0 h1 s1
theorem echoes : Calls Tryz.prog 3 #[.int .i64 a, .int .i64 b, .int .i64 c, .int .u64 d] W fun e w' =>
    e = .returned (.bool true) ∧ w'.os = W.os ∧ w'.output = W.output ∧ W.heap.size ≤ w'.heap.size ∧ ∀ i, i < W.heap.size → w'.heap[i]? = W.heap[i]? := by
  have hfin : Calls Tryz.prog 3 #[.int .i64 a, .int .i64 b, .int .i64 c, .int .u64 d] W (Fin t0 t1 a0 a1 W) := by
    have hv : VRs (rhoE a b c) (ioE a0 a1) argsE [.int .i64 a, .int .i64 b, .int .i64 c, .int .u64 d] := by
      have at' : ∀ k i, VR (rhoE a b c) (ioE a0 a1) (.sym k ⟨0, [(i, 1)]⟩) (.int k (rhoE a b c i)) := fun k i => by
        have := VR.sym (ρ := rhoE a b c) (ι := ioE a0 a1) k ⟨0, [(i, 1)]⟩
        have e : Lin.eval (rhoE a b c) ⟨0, [(i, 1)]⟩ = rhoE a b c i := by simp only [Lin.eval, termsEval]; omega
        rwa [e] at this
      exact .cons _ _ _ _ (at' _ 0) (.cons _ _ _ _ (at' _ 1) (.cons _ _ _ _ (at' _ 2) (.cons _ _ _ _ (.unk _ _) .nil)))
    obtain ⟨cd, hbd⟩ : ∃ c, Tryz.f3.body = some c := ⟨_, rfl⟩
    have hlaw : cd = law := by
      have : bodyOf Tryz.f3 = cd := by unfold bodyOf; rw [hbd]; rfl
      exact this.symm
    subst hlaw
    refine calls_of_W (n := 0) (callsIn_of_wp_marks Tryz.func3 hbd trivial ?_ rfl)
    refine law_ok ha hb hc (fun a w h => h) ?_
    exact ⟨ioE a0 a1, relE h0 s0 h1 s1, start_ok hv _, .nil, .refl _ _ _ _⟩
  refine Calls.mono hfin ?_
  rintro e w' ⟨ρ, h', nx', ⟨v', ι', e1, e2, e3, e4⟩, q2, q3⟩
  cases e2
  refine ⟨e1, e4.same.1, e4.same.2.1, e4.size, ?_⟩
  have one : ∀ (g : Nat) (t : TypeId) (a : Addr) (k : Nat), ioE a0 a1 g = some ⟨g, 0, 1⟩ → ioE a0 a1 k = some ⟨a.block, a.off, 0⟩ → a.spot = none → W.heap[g]? = some (.cells #[.iface 768 (.pointer (some a))] t (0, 0)) →
      h'.get g = some (.cells t [.iface 768 (.ptr k 0)] true true none) → w'.heap[g]? = W.heap[g]? := by
    intro g t a k hg hk hs hw hh
    obtain ⟨l, l1, l2⟩ := e3.obj g _ hh
    have := e4.le _ _ hg
    rw [l1] at this; cases this
    obtain ⟨cs, fz, c1, c2, c3, c4, c5, c6⟩ := l2.cells
    obtain ⟨x, x1, x2, _⟩ := c6 0 _ rfl
    cases x2 with
    | iface _ _ y hy =>
    cases hy with
    | ptr _ _ ly hly =>
    have := e4.le _ _ hk
    rw [hly] at this; cases this
    obtain ⟨b, o, p⟩ := a
    have hs : p = none := hs
    subst hs
    have hfz := (c5 rfl).2 rfl
    subst hfz
    have hcs : cs = #[.iface 768 (.pointer (some ⟨b, o, none⟩))] := by
      apply Array.ext'
      obtain ⟨lst⟩ := cs
      have c2 : lst.length = 1 := c2
      match lst, c2, x1 with
      | [z], _, x1 =>
        have x1 : some z = some _ := x1
        cases x1
        rfl
    rw [hw, ← hcs]
    exact c1
  intro i hi
  by_cases i0 : i = 0
  · subst i0
    exact one 0 t0 a0 16 (by simp [ioE]) (by simp [ioE]) s0 h0 q2
  · by_cases i1 : i = 1
    · subst i1
      exact one 1 t1 a1 17 (by simp [ioE]) (by simp [ioE]) s1 h1 q3
    · refine (e4.frame i hi ?_).1
      intro k o l hk hl
      rw [h00_get] at hk
      by_cases k0 : k = 0
      · subst k0
        simp [ioE] at hl; subst hl
        exact fun e => i0 e.symm
      · rw [if_neg k0] at hk
        by_cases k1 : k = 1
        · subst k1
          simp [ioE] at hl; subst hl
          exact fun e => i1 e.symm
        · rw [if_neg k1] at hk; cases hk
end
end Go.Proofs.YtoklobcagaolmaaGreatDoor.SE
