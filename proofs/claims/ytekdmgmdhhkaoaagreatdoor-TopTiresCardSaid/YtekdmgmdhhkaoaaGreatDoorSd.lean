/- SOUNDNESS, part 4: code, deferred calls, a function's run (callA_ok); functions without a body; tables. No condition. -/
import Derived.Test.YtekdmgmdhhkaoaaGreatDoorSc
import Derived.LoopN
import Derived.Scope
import Derived.Lib.Bytealg

noncomputable section
namespace Go.Proofs.YtekdmgmdhhkaoaaGreatDoor.SE
variable {ρ : Val}

def CodeOk (P : Program) (nt : Nat) : Code → Prop
  | .region _ ops _ => OpsOk P nt ops.toList
  | .seq a b => CodeOk P nt a ∧ CodeOk P nt b
  | .cond c a b => OperandOk P c ∧ CodeOk P nt a ∧ CodeOk P nt b
  | .block _ b => CodeOk P nt b
  | .loop b => CodeOk P nt b
  | .scope b => CodeOk P nt b
  | _ => True

/-- what a run's end says -/
def PostOut (E : Env) (ρ : Val) (B : Base) (nt : Nat) (out : Out) (e : Exit) (a : Act) (w : World) : Prop :=
  match out with
  | .out .norm s => e = .normal ∧ Good E ρ B nt s a w
  | .out .ret s => e = .ret ∧ Good E ρ B nt s a w
  | .out (.exit i) s => e = .exit i ∧ Good E ρ B nt s a w
  | .bad _ => False

def Out.fine : Out → Prop
  | .bad _ => False
  | _ => True

section
variable {E : Env} (hE : EnvOk E ρ) {B : Base} {nt : Nat}
include hE

theorem ex_ok : ∀ (c : Code) (s : St) (a : Act) (w : World), CodeOk E.P.P nt c → (ex c E s).fine → Good E ρ B nt s a w → c.wp E.P.P (PostOut E ρ B nt (ex c E s)) a w
  | .skip, s, a, w, _, _, hg => wp_skip ⟨rfl, hg⟩
  | .label l, s, a, w, _, _, hg => wp_label ⟨rfl, hg⟩
  | .exit id, s, a, w, _, _, hg => wp_exit ⟨rfl, hg⟩
  | .ret, s, a, w, _, _, hg => wp_ret ⟨rfl, hg⟩
  | .region id ops draw, s, a, w, hc, hf, hg => by
    have e : ex (.region id ops draw) E s = (bif2 draw (runDraw ops E s) (runOps ops E ops.toList s)).out := rfl
    rw [e] at hf ⊢
    cases draw with
    | true =>
      have hf : (runDraw ops E s).out.fine := hf
      show (Code.region id ops true).wp E.P.P (PostOut E ρ B nt (runDraw ops E s).out) a w
      cases hr : runDraw ops E s with
      | no t => rw [hr] at hf; exact hf.elim
      | ok r => exact wp_mono (runDraw_ok hE hc hr hg) fun e a w h => h
    | false =>
      have hf : (runOps ops E ops.toList s).out.fine := hf
      show (Code.region id ops false).wp E.P.P (PostOut E ρ B nt (runOps ops E ops.toList s).out) a w
      cases hr : runOps ops E ops.toList s with
      | no t => rw [hr] at hf; exact hf.elim
      | ok r =>
        refine wp_region ?_
        have := runOps_ok hE hc (Q := PostOut E ρ B nt (R.ok r).out) (fun a w h => ⟨rfl, h⟩) _ _ 0 s a w rfl rfl hr hg
        simpa using this
  | .seq x y, s, a, w, hc, hf, hg => by
    have e : ex (.seq x y) E s = (ex x E s).then (ex y E) := rfl
    rw [e] at hf ⊢
    refine wp_seq ?_
    cases hx : ex x E s with
    | bad t => rw [hx] at hf; exact hf.elim
    | out xx s1 =>
      rw [hx] at hf
      have ih := ex_ok x s a w hc.1 (by rw [hx]; trivial) hg
      rw [hx] at ih
      refine wp_mono ih ?_
      intro e1 a1 w1 h1
      cases xx with
      | norm =>
        obtain ⟨e2, hg1⟩ := h1
        subst e2
        have hf : (ex y E s1).fine := hf
        exact ex_ok y s1 a1 w1 hc.2 hf hg1
      | ret => obtain ⟨e2, hg1⟩ := h1; subst e2; exact ⟨rfl, hg1⟩
      | exit i => obtain ⟨e2, hg1⟩ := h1; subst e2; exact ⟨rfl, hg1⟩
  | .cond c x y, s, a, w, hc, hf, hg => by
    have e : ex (.cond c x y) E s = (ev s.tm c).elim (fun v => opt v.bool? (.bad "cond") fun q => bif2 q (ex x E s) (ex y E s)) .bad := rfl
    rw [e] at hf ⊢
    cases h1 : ev s.tm c with
    | no t => rw [h1] at hf; exact hf.elim
    | ok v =>
      rw [h1] at hf
      have hf : (opt v.bool? (.bad "cond") fun q => bif2 q (ex x E s) (ex y E s)).fine := hf
      show (Code.cond c x y).wp E.P.P (PostOut E ρ B nt (opt v.bool? (.bad "cond") fun q => bif2 q (ex x E s) (ex y E s))) a w
      cases h2 : v.bool? with
      | none => rw [h2] at hf; exact hf.elim
      | some q =>
        rw [h2] at hf
        obtain ⟨ι, hHR, hAR, _⟩ := hg.rel
        have hv := ev_ok hHR.glob hAR hc.1 h1
        rw [bool?_eq h2] at hv
        generalize hq : a.eval c = cv at hv
        cases hv
        refine wp_cond hq ?_
        cases q with
        | true => exact ex_ok x s a w hc.2.1 hf hg
        | false => exact ex_ok y s a w hc.2.2 hf hg
  | .block id x, s, a, w, hc, hf, hg => by
    have e : ex (.block id x) E s = (ex x E s).block id := rfl
    rw [e] at hf ⊢
    refine wp_block ?_
    cases hx : ex x E s with
    | bad t => rw [hx] at hf; exact hf.elim
    | out xx s1 =>
      rw [hx] at hf
      have ih := ex_ok x s a w hc (by rw [hx]; trivial) hg
      rw [hx] at ih
      refine wp_mono ih ?_
      intro e1 a1 w1 h1
      cases xx with
      | norm => obtain ⟨e2, hg1⟩ := h1; subst e2; exact ⟨rfl, hg1⟩
      | ret => obtain ⟨e2, hg1⟩ := h1; subst e2; exact ⟨rfl, hg1⟩
      | exit i =>
        obtain ⟨e2, hg1⟩ := h1
        subst e2
        show (if i = id then _ else _ : Prop)
        have eb : (Out.out (.exit i) s1).block id = bif2 (Nat.beq i id) (.out .norm s1) (.out (.exit i) s1) := rfl
        rw [eb]
        by_cases hi : i = id
        · subst hi
          rw [if_pos rfl, show Nat.beq i i = true from Nat.beq_refl i]
          exact ⟨rfl, hg1⟩
        · rw [if_neg hi]
          have : Nat.beq i id = false := by
            cases hb : Nat.beq i id with
            | false => rfl
            | true => exact absurd (Nat.eq_of_beq_eq_true hb) hi
          rw [this]
          exact ⟨rfl, hg1⟩
  | .loop x, s, a, w, hc, hf, hg => by
    have e : ex (.loop x) E s = loopA (ex x) E s := rfl
    rw [e] at hf ⊢
    unfold loopA at hf ⊢
    refine wp_loop_rounds E.rounds ?_
    generalize E.rounds = n at hf ⊢
    -- the rounds one by one
    have key : ∀ n (out : Out) s a w, iter n (ex x E) s = out → out.fine → Good E ρ B nt s a w → Code.rounds E.P.P x (PostOut E ρ B nt out) n a w := by
      intro n
      induction n with
      | zero => intro out s a w he hf hg; subst he; exact hf.elim
      | succ n ih =>
        intro out s a w he hf hg
        have he : (ex x E s).elim (fun xx s' => xx.elim (iter n (ex x E) s') (.out .ret s') (fun i => .out (.exit i) s')) .bad = out := he
        cases hx : ex x E s with
        | bad t => rw [hx] at he; subst he; exact hf.elim
        | out xx s1 =>
          rw [hx] at he
          have ih1 := ex_ok x s a w hc (by rw [hx]; trivial) hg
          rw [hx] at ih1
          refine wp_mono ih1 ?_
          intro e1 a1 w1 h1
          cases xx with
          | norm => obtain ⟨e2, hg1⟩ := h1; subst e2; exact ih out s1 a1 w1 he hf hg1
          | ret =>
            obtain ⟨e2, hg1⟩ := h1; subst e2
            have he : Out.out .ret s1 = out := he
            subst he; exact ⟨rfl, hg1⟩
          | exit i =>
            obtain ⟨e2, hg1⟩ := h1; subst e2
            have he : Out.out (.exit i) s1 = out := he
            subst he; exact ⟨rfl, hg1⟩
    exact key n _ s a w rfl hf hg
  | .scope x, s, a, w, hc, hf, hg => by
    have e : ex (.scope x) E s = ex x E s := rfl
    rw [e] at hf ⊢
    refine wp_scope_straight ?_
    have ih := ex_ok x s a w hc hf hg
    refine wp_mono ih ?_
    intro e1 a1 w1 h1
    cases hx : ex x E s with
    | bad t => rw [hx] at hf; exact hf.elim
    | out xx s1 =>
      rw [hx] at h1
      cases xx with
      | norm => obtain ⟨e2, hg1⟩ := h1; subst e2; exact ⟨rfl, hg1⟩
      | ret => obtain ⟨e2, hg1⟩ := h1; subst e2; exact ⟨rfl, hg1⟩
      | exit i => obtain ⟨e2, hg1⟩ := h1; subst e2; exact ⟨rfl, hg1⟩
  | .rangeFunc .., s, a, w, _, hf, _ => hf.elim
  | .goto l, s, a, w, _, hf, _ => hf.elim
  | .refuse _, s, a, w, _, hf, _ => hf.elim
end
end Go.Proofs.YtekdmgmdhhkaoaaGreatDoor.SE
end

noncomputable section
namespace Go.Proofs.YtekdmgmdhhkaoaaGreatDoor.SE
variable {ρ : Val} {ι : Io}

/-! ## results and arguments -/
def resultOf (a : Act) : ResultVar → Sem Value
  | .tmp t => pure (a.tmps.getD t undef)
  | .cell c t => do loadVar t (← asAddr (a.tmps.getD c undef))
section
variable {E : Env} (hT : E.P.ok) {nt : Nat}
include hT

theorem resultsA_ok {nx : Nat} {h : T AO} {w : World} (hr : HR ρ E.P.P ι nx h w) {tm : T AV} {a : Act} (ha : AR ρ ι tm a nt) : ∀ {l : List ResultVar} {vs : List AV}, resultsA E.P tm h l = .ok vs →
    ∃ r : List Value, (l.mapM (resultOf a)).run E.P.P w = .ok r w ∧ VRs ρ ι vs r
  | [], vs, he => by cases he; exact ⟨[], rfl, .nil⟩
  | .tmp t :: l, vs, he => by
    unfold resultsA at he
    split at he
    · rename_i q hq
      cases he
      obtain ⟨r, r1, r2⟩ := resultsA_ok hr ha hq
      exact ⟨a.tmps.getD t undef :: r, by simp only [List.mapM_cons, resultOf, Sem.run_bind, Sem.run_pure, Result.andThen_ok, r1], .cons _ _ _ _ (ha.tmps t) r2⟩
    · cases he
  | .cell c t :: l, vs, he => by
    unfold resultsA at he
    split at he
    · rename_i id off hc
      split at he
      · rename_i v q hv hq
        cases he
        obtain ⟨r, r1, r2⟩ := resultsA_ok hr ha hq
        have := ha.tmps c
        rw [hc] at this
        simp only [Option.getD_some] at this
        generalize hg : a.tmps.getD c undef = x at this
        cases this with
        | ptr _ _ lo hl =>
        obtain ⟨v', q1, q2⟩ := ldT_ok hT hr hl hv
        refine ⟨v' :: r, ?_, .cons _ _ _ _ q2 r2⟩
        simp only [List.mapM_cons, resultOf, Sem.run_bind, Sem.run_pure, Result.andThen_ok, hg, asAddr, q1, r1]
      · cases he
    · cases he

theorem results_eq (fn : Func) (a : Act) : results fn a.tmps = (do let vs ← fn.results.mapM (resultOf a); pure (if h : vs.size = 1 then vs[0] else .tuple vs)) := by
  have _ := hT
  unfold results
  congr 1

theorem resultsR_ok {nx : Nat} {h : T AO} {w : World} (hr : HR ρ E.P.P ι nx h w) {tm : T AV} {a : Act} (ha : AR ρ ι tm a nt) {fn : Func} {v : AV} {h' : T AO} {nx' : Nat} (he : resultsR E.P fn tm h nx = .ok ⟨v, h', nx'⟩) :
    h' = h ∧ nx' = nx ∧ ∃ v', (results fn a.tmps).run E.P.P w = .ok v' w ∧ VR ρ ι v v' := by
  unfold resultsR at he
  split at he
  · rename_i l hl
    cases he
    refine ⟨rfl, rfl, ?_⟩
    obtain ⟨r, r1, r2⟩ := resultsA_ok hT hr ha hl
    rw [results_eq hT, Array.mapM_eq_mapM_toList]
    have hrun : ((List.toArray <$> List.mapM (resultOf a) fn.results.toList) : Sem (Array Value)).run E.P.P w = .ok r.toArray w := by
      rw [map_eq_pure_bind]
      simp only [Sem.run_bind, r1, Result.andThen_ok, Sem.run_pure]
    refine ⟨if h : r.toArray.size = 1 then r.toArray[0] else .tuple r.toArray, ?_, ?_⟩
    · simp only [Sem.run_bind, hrun, Result.andThen_ok, Sem.run_pure]
    · cases r2 with
      | nil => exact .tup _ _ .nil
      | cons x l' y r' h1 h2 =>
        cases h2 with
        | nil => exact h1
        | cons x2 l2 y2 r2' h3 h4 =>
          have : ¬ ((y :: y2 :: r2').toArray.size = 1) := by simp
          rw [dif_neg this]
          exact .tup _ _ (.cons _ _ _ _ h1 (.cons _ _ _ _ h3 h4))
  · cases he
end
end Go.Proofs.YtekdmgmdhhkaoaaGreatDoor.SE
end

noncomputable section
namespace Go.Proofs.YtekdmgmdhhkaoaaGreatDoor.SE
variable {ρ : Val}

section
variable {E : Env} (hE : EnvOk E ρ)
include hE

/-- the deferred calls, one after another, and then the results -/
theorem leaves_ok {fn : Func} {tmps : Array Value} {R : Ending → World → Prop} {h' : T AO} {nx' : Nat} :
    ∀ {df : List ADef} {ds : List Deferred} {ι : Io} {h : T AO} {nx : Nat} {w : World}, HR ρ E.P.P ι nx h w → DefsR ρ ι df ds → runDefers E.dcall df h nx = .ok (h', nx') →
      (∀ ι' w', HR ρ E.P.P ι' nx' h' w' → Nxt ι h w nx ι' h' w' nx' → ∃ v, (results fn tmps).run E.P.P w' = .ok v w' ∧ R (.returned v) w') →
      Leaves E.P.P fn tmps R ds .returning w
  | _, _, ι, h, nx, w, hr, .nil, he, hk => by
    cases he
    exact hk ι w hr (.refl _ _ _ _)
  | _, _, ι, h, nx, w, hr, .cons x d l r ⟨vs, h1, ⟨fv, cap, h2⟩, h3⟩ hs, he, hk => by
    unfold runDefers at he
    split at he
    · rename_i v h1' nx1 hc
      obtain ⟨c1, c2⟩ := hE.dcall _ _ _ _ _ _ _ hc ι w vs hr h1
      refine ⟨(by intro e; cases e), fv, cap, x.f, vs.toArray, h2, by rw [h3]; exact c1, ?_⟩
      intro c cs hcm
      obtain ⟨e, u', w', fr, ⟨hu, v', ι', he', hv, hr', hn⟩, rest⟩ := c2 .returning c cs hcm
      subst hu he'
      refine ⟨_, _, w', fr, ?_, rest⟩
      show Leaves E.P.P fn tmps R r (settle .returning) w'
      exact leaves_ok hr' (hs.mono hn.le) he fun ι2 w2 hr2 hn2 => hk ι2 w2 hr2 (hn.trans hn2)
    · cases he
end
end Go.Proofs.YtekdmgmdhhkaoaaGreatDoor.SE
end

noncomputable section
namespace Go.Proofs.YtekdmgmdhhkaoaaGreatDoor.SE
variable {ρ : Val} {ι : Io}

/-! ## a body's temporaries at its start -/
theorem putArgs_get : ∀ (l : List AV) (tm : T AV) (i t : Nat), T.getW (wayOf t) (putArgs l (tm, i)) = if i ≤ t ∧ t < i + l.length then l[t - i]? else T.getW (wayOf t) tm
  | [], tm, i, t => by
    show T.getW (wayOf t) tm = _
    rw [if_neg (by simp)]
  | v :: l, tm, i, t => by
    show T.getW (wayOf t) (putArgs l (T.putW (wayOf i) tm (some v), Nat.add i 1)) = _
    rw [putArgs_get l _ _ t, T.getW_wayOf_putW]
    simp only [Nat.add_eq, List.length_cons]
    by_cases h1 : t = i
    · subst h1
      rw [if_neg (by omega), if_pos rfl, if_pos (by omega)]
      simp
    · by_cases h2 : i + 1 ≤ t ∧ t < i + 1 + l.length
      · rw [if_pos h2, if_pos (by omega)]
        rw [show t - i = (t - (i + 1)) + 1 by omega, List.getElem?_cons_succ]
      · rw [if_neg h2, if_neg h1, if_neg (by omega)]

theorem start_ok {args : List AV} {vs : List Value} (h : VRs ρ ι args vs) (nt : Nat) :
    AR ρ ι (putArgs args (.e, 0)) { tmps := vs.toArray ++ Array.replicate (nt - vs.toArray.size) undef, defers := [] } nt := by
  have hl := h.length
  refine ⟨fun t => ?_, by simp; omega⟩
  rw [putArgs_get]
  by_cases ht : t < args.length
  · rw [if_pos (by omega), Nat.sub_zero]
    obtain ⟨v, h1, h2⟩ := h.get t _ (List.getElem?_eq_getElem ht)
    rw [List.getElem?_eq_getElem ht]
    have : (vs.toArray ++ Array.replicate (nt - vs.toArray.size) undef).getD t undef = v := by
      rw [Array.getD_eq_getD_getElem?, Array.getElem?_append_left (by simp; omega)]
      simp [h1]
    rw [this]
    exact h2
  · rw [if_neg (by omega)]
    have : (vs.toArray ++ Array.replicate (nt - vs.toArray.size) undef).getD t undef = undef := by
      rw [Array.getD_eq_getD_getElem?, Array.getElem?_append_right (by simp; omega)]
      simp only [Array.getElem?_replicate]
      split <;> rfl
    rw [this]
    simp
    exact undef_ok
end Go.Proofs.YtekdmgmdhhkaoaaGreatDoor.SE
end

noncomputable section
namespace Go.Proofs.YtekdmgmdhhkaoaaGreatDoor.SE
variable {ρ : Val}

structure Progs (Γ : Ctx) (ρ : Val) (T : Tab) (exts : List (FuncId × Ext)) : Prop where
  tab : T.ok
  ctx : Γ.ok ρ
  mixed : T.P.follows .mixedOrders = true
  body : ∀ f fn c, T.fs.get f = some fn → fn.body = some c → (fn.name == "runtime.NumGoroutine") = false ∧ CodeOk T.P fn.ntmps c
  ext : ∀ f fn, T.fs.get f = some fn → fn.body = none → ∀ (args : List AV) (vs : List Value) (ι : Io) (h : SE.T AO) (nx : Nat) (v : AV) (h' : SE.T AO) (nx' : Nat) (w : World),
    extCall Γ exts f args h nx = .ok ⟨v, h', nx'⟩ → VRs ρ ι args vs → h' = h ∧ nx' = nx ∧ ∃ v', (callFunc f vs.toArray).run T.P w = .ok (.value v') w ∧ VR ρ ι v v'
end Go.Proofs.YtekdmgmdhhkaoaaGreatDoor.SE
end

noncomputable section
namespace Go.Proofs.YtekdmgmdhhkaoaaGreatDoor.SE
variable {ρ : Val}

section
variable {Γ : Ctx} {T : Tab} {exts : List (FuncId × Ext)} (hP : Progs Γ ρ T exts)
include hP

theorem run_enter {f : FuncId} {fn : Func} {c : Code} (hf : T.fs.get f = some fn) (hb : fn.body = some c) (vs : Array Value) (w : World) : (callFunc f vs).run T.P w = .ok (.enter f vs) w := by
  have h1 := hP.tab.fs f fn hf
  have h2 := (hP.body f fn c hf hb).1
  have h3 : ¬ fn.name = "runtime.NumGoroutine" := by simpa using h2
  simp [callFunc, program, Sem.run, h1, h3, hb]

/-- a body's run, to its end -/
theorem finish_ok {E : Env} (hE : EnvOk E ρ) {fn : Func} {B : Base} {s : St} {a : Act} {w : World} (hg : Good E ρ B fn.ntmps s a w) {v : AV} {h' : SE.T AO} {nx' : Nat}
    (hf : finish false E fn s = .ok ⟨v, h', nx'⟩) : Leaves E.P.P fn a.tmps (After E.P.P ρ B.ι B.h B.w B.nx v h' nx') a.defers .returning w := by
  have _ := hP
  obtain ⟨ι, hHR, hAR, hDR, hN⟩ := hg.rel
  have key : ∀ h1 nx1, runDefers E.dcall s.df s.h s.nx = .ok (h1, nx1) → resultsR E.P fn s.tm h1 nx1 = .ok ⟨v, h', nx'⟩ → Leaves E.P.P fn a.tmps (After E.P.P ρ B.ι B.h B.w B.nx v h' nx') a.defers .returning w := by
    intro h1 nx1 hd hres
    refine leaves_ok hE hHR hDR hd ?_
    intro ι' w' hr' hn'
    obtain ⟨e1, e2, v', q1, q2⟩ := resultsR_ok hE.tab hr' (hAR.mono hn'.le) hres
    subst e1 e2
    exact ⟨v', q1, v', ι', rfl, q2, hr', hN.trans hn'⟩
  unfold finish at hf
  split at hf
  · rename_i hd
    exact key s.h s.nx (by rw [hd]; rfl) hf
  · rename_i df hd
    have hf : (match runDefers E.dcall s.df s.h s.nx with | .ok (h', nx') => resultsR E.P fn s.tm h' nx' | .no w => .no w) = R.ok ⟨v, h', nx'⟩ := hf
    split at hf
    · rename_i h1 nx1 hq
      exact key h1 nx1 hq hf
    · cases hf
end
end Go.Proofs.YtekdmgmdhhkaoaaGreatDoor.SE
end

noncomputable section
namespace Go.Proofs.YtekdmgmdhhkaoaaGreatDoor.SE
variable {ρ : Val}

section
variable {Γ : Ctx} {T : Tab} {exts : List (FuncId × Ext)} (hP : Progs Γ ρ T exts)
include hP

theorem finishD_ok {E : Env} (hE : EnvOk E ρ) {fn : Func} {B : Base} {s : St} {a : Act} {w : World} (hg : Good E ρ B fn.ntmps s a w) {v : AV} {h' : SE.T AO} {nx' : Nat}
    (hf : finish true E fn s = .ok ⟨v, h', nx'⟩) : a.defers = [] ∧ ∃ v', (results fn a.tmps).run E.P.P w = .ok v' w ∧ After E.P.P ρ B.ι B.h B.w B.nx v h' nx' (.returned v') w := by
  have _ := hP
  obtain ⟨ι, hHR, hAR, hDR, hN⟩ := hg.rel
  unfold finish at hf
  split at hf
  · rename_i hd
    obtain ⟨e1, e2, v', q1, q2⟩ := resultsR_ok hE.tab hHR hAR hf
    subst e1 e2
    rw [hd] at hDR
    refine ⟨?_, v', q1, v', ι, rfl, q2, hHR, hN⟩
    generalize a.defers = ds at hDR
    cases hDR
    rfl
  · cases hf

/-- A FUNCTION'S RUN -/
theorem callA_ok : ∀ d : Nat, CallOk T ρ (callA d Γ T exts false) ∧ DCallOk T ρ (callA d Γ T exts true)
  | 0 => ⟨(fun _ _ _ _ _ _ _ he => by cases he), (fun _ _ _ _ _ _ _ he => by cases he)⟩
  | d + 1 => by
    obtain ⟨ih1, ih2⟩ := callA_ok d
    let E : Env := ⟨Γ, T, callA d Γ T exts false, callA d Γ T exts true, 100000⟩
    have hE : EnvOk E ρ := ⟨hP.tab, hP.ctx, ih1, ih2, hP.mixed⟩
    constructor
    · intro g args h nx v h' nx' he ι w vs hHR hvs
      have he : (opt (T.fs.get g) (R.no "no function") fun fn => opt fn.body (bif2 false (R.no "a deferred extern") (extCall Γ exts g args h nx)) fun c => bodyCall false fn c E args h nx) = .ok ⟨v, h', nx'⟩ := he
      obtain ⟨fn, hf, he⟩ := opt_eq_ok he
      cases hb : fn.body with
      | none =>
        rw [hb] at he
        have he : extCall Γ exts g args h nx = .ok ⟨v, h', nx'⟩ := he
        obtain ⟨e1, e2, v', q1, q2⟩ := hP.ext g fn hf hb args vs ι h nx v h' nx' w he hvs
        exact .inl ⟨v', q1, q2, e1, e2⟩
      | some c =>
        rw [hb] at he
        have he : bodyCall false fn c E args h nx = .ok ⟨v, h', nx'⟩ := he
        refine .inr ⟨run_enter hP hf hb _ w, ?_⟩
        have hc := (hP.body g fn c hf hb).2
        have hg : Good E ρ ⟨ι, h, w, nx⟩ fn.ntmps ⟨putArgs args (.e, 0), [], h, nx⟩ { tmps := vs.toArray ++ Array.replicate (fn.ntmps - vs.toArray.size) undef, defers := [] } w :=
          ⟨ι, hHR, start_ok hvs _, .nil, .refl _ _ _ _⟩
        refine calls_of_wp_defers (hP.tab.fs g fn hf) hb ?_
        unfold bodyCall at he
        have hx := fun hfine => ex_ok hE c ⟨putArgs args (.e, 0), [], h, nx⟩ _ w hc hfine hg
        cases ho : ex c E ⟨putArgs args (.e, 0), [], h, nx⟩ with
        | bad t => rw [ho] at he; cases he
        | out x s =>
          rw [ho] at he hx
          refine wp_mono (hx trivial) ?_
          intro e1 a1 w1 h1
          cases x with
          | norm => obtain ⟨e2, hg1⟩ := h1; subst e2; exact finish_ok hP hE hg1 he
          | ret => obtain ⟨e2, hg1⟩ := h1; subst e2; exact finish_ok hP hE hg1 he
          | exit i => cases he
    · intro g args h nx v h' nx' he ι w vs hHR hvs
      have he : (opt (T.fs.get g) (R.no "no function") fun fn => opt fn.body (bif2 true (R.no "a deferred extern") (extCall Γ exts g args h nx)) fun c => bodyCall true fn c E args h nx) = .ok ⟨v, h', nx'⟩ := he
      obtain ⟨fn, hf, he⟩ := opt_eq_ok he
      cases hb : fn.body with
      | none => rw [hb] at he; cases he
      | some c =>
        rw [hb] at he
        have he : bodyCall true fn c E args h nx = .ok ⟨v, h', nx'⟩ := he
        refine ⟨run_enter hP hf hb _ w, fun u => ?_⟩
        have hc := (hP.body g fn c hf hb).2
        have hg : Good E ρ ⟨ι, h, w, nx⟩ fn.ntmps ⟨putArgs args (.e, 0), [], h, nx⟩ { tmps := vs.toArray ++ Array.replicate (fn.ntmps - vs.toArray.size) undef, defers := [] } w :=
          ⟨ι, hHR, start_ok hvs _, .nil, .refl _ _ _ _⟩
        refine callsD_of_wp (hP.tab.fs g fn hf) hb ?_
        unfold bodyCall at he
        have hx := fun hfine => ex_ok hE c ⟨putArgs args (.e, 0), [], h, nx⟩ _ w hc hfine hg
        cases ho : ex c E ⟨putArgs args (.e, 0), [], h, nx⟩ with
        | bad t => rw [ho] at he; cases he
        | out x s =>
          rw [ho] at he hx
          refine wp_mono (hx trivial) ?_
          intro e1 a1 w1 h1
          cases x with
          | norm => obtain ⟨e2, hg1⟩ := h1; subst e2; exact finishD_ok hP hE hg1 he
          | ret => obtain ⟨e2, hg1⟩ := h1; subst e2; exact finishD_ok hP hE hg1 he
          | exit i => cases he
end
end Go.Proofs.YtekdmgmdhhkaoaaGreatDoor.SE
end

noncomputable section
namespace Go.Proofs.YtekdmgmdhhkaoaaGreatDoor.SE
variable {ρ : Val} {ι : Io}

theorem land16' (a : Nat) : Nat.land a 65535 = a % 65536 := by
  show a &&& 65535 = _
  exact Nat.and_two_pow_sub_one_eq_mod a 16
theorem shr16' (a : Nat) : Nat.shiftRight a 16 = a / 65536 := by
  show a >>> 16 = _
  rw [Nat.shiftRight_eq_div_pow]

theorem idxByte_ok {Γ : Ctx} (hΓ : Γ.ok ρ) {c : UInt8} : ∀ {n a i : Nat} {l : List UInt8} {v : AV}, idxByte Γ c.toNat n a i = .ok v → Dg ρ n a l →
    v = .int .i64 (if Lib.indexByte l c = -1 then -1 else Int.ofNat i + Lib.indexByte l c)
  | 0, a, i, [], v, h, _ => by cases h; rfl
  | n + 1, a, i, b :: l, v, h, hd => by
    unfold idxByte at h
    rw [land16', shr16'] at h
    have hc : chVal ρ c.toNat = (c.toNat : Int) := by unfold chVal; rw [if_pos c.toNat_lt]
    cases he : chEq Γ (a % 65536) c.toNat with
    | no s => rw [he] at h; cases h
    | ok q =>
      have e := chEq_ok hΓ he
      rw [← hd.1, hc] at e
      rw [he] at h
      cases q with
      | true =>
        cases h
        have hb : b = c := by
          have : (b.toNat : Int) = c.toNat := by simpa using e
          exact UInt8.toNat_inj.1 (by omega)
        subst hb
        have : Lib.indexByte (b :: l) b = 0 := by simp [Lib.indexByte]
        rw [this]; simp
      | false =>
        have hb : (b == c) = false := by
          have : ¬ (b.toNat : Int) = c.toNat := by simpa using e
          rw [beq_eq_false_iff_ne]
          intro e2; subst e2; exact this rfl
        have ih := idxByte_ok hΓ h hd.2
        rw [ih]
        have hge := Lib.indexByte_ge l c
        have e2 : Lib.indexByte (b :: l) c = if Lib.indexByte l c == -1 then -1 else Lib.indexByte l c + 1 := by
          rw [Lib.indexByte, hb]; rfl
        rw [e2]
        by_cases hm : Lib.indexByte l c = -1
        · simp [hm]
        · have h1 : (Lib.indexByte l c == -1) = false := by rw [beq_eq_false_iff_ne]; exact hm
          rw [h1, if_neg hm]
          simp only [Bool.false_eq_true, if_false]
          rw [if_neg (by omega)]
          congr 1
          show ((i + 1 : Nat) : Int) + _ = (i : Int) + _
          omega

theorem cntByte_ok {Γ : Ctx} (hΓ : Γ.ok ρ) {c : UInt8} : ∀ {n a k : Nat} {l : List UInt8} {v : AV}, cntByte Γ c.toNat n a k = .ok v → Dg ρ n a l → v = .int .i64 (Int.ofNat (k + Lib.countByte l c))
  | 0, a, k, [], v, h, _ => by cases h; simp [Lib.countByte]
  | n + 1, a, k, b :: l, v, h, hd => by
    unfold cntByte at h
    rw [land16', shr16'] at h
    have hc : chVal ρ c.toNat = (c.toNat : Int) := by unfold chVal; rw [if_pos c.toNat_lt]
    cases he : chEq Γ (a % 65536) c.toNat with
    | no s => rw [he] at h; cases h
    | ok q =>
      have e := chEq_ok hΓ he
      rw [← hd.1, hc] at e
      rw [he] at h
      cases q with
      | true =>
        have hb : b = c := by
          have : (b.toNat : Int) = c.toNat := by simpa using e
          exact UInt8.toNat_inj.1 (by omega)
        subst hb
        rw [cntByte_ok hΓ h hd.2]
        have : Lib.countByte (b :: l) b = Lib.countByte l b + 1 := by simp [Lib.countByte]
        rw [this]
        congr 2
        show k + 1 + _ = _
        omega
      | false =>
        have hb : ¬ b = c := by
          have : ¬ (b.toNat : Int) = c.toNat := by simpa using e
          intro e2; subst e2; exact this rfl
        rw [cntByte_ok hΓ h hd.2]
        have : Lib.countByte (b :: l) c = Lib.countByte l c := by simp [Lib.countByte, hb]
        rw [this]

/-- what each function without a body stands for -/
def Ext.sem : Ext → Array Value → Sem Value
  | .same => Extern.AbiNoEscape.same
  | .indexByte => Extern.BytealgIndexByte.indexByte
  | .count => Extern.BytealgCount.count
  | .frombits => Extern.MathFloatBits.float64frombits

theorem extA_ok {Γ : Ctx} (hΓ : Γ.ok ρ) {P : Program} {w : World} : ∀ {e : Ext} {args : List AV} {vs : List Value} {v : AV}, extA Γ e args = .ok v → VRs ρ ι args vs →
    ∃ v', (e.sem vs.toArray).run P w = .ok v' w ∧ VR ρ ι v v' := by
  intro e args vs v h hv
  unfold extA at h
  split at h
  · cases h
    cases hv with
    | cons _ _ x _ p q =>
    cases q
    exact ⟨x, rfl, p⟩
  · rename_i l n c
    obtain ⟨hc, h⟩ := bif2_eq_ok h
    have hc : c < 256 := by simpa [Nat.blt_eq] using hc
    cases hv with
    | cons _ _ x _ p q =>
    cases q with
    | cons _ _ y _ p2 q2 =>
    cases q2
    cases p2
    cases p with
    | str _ _ s hs =>
    have hcc : (UInt8.ofNat c).toNat = c := by simp [UInt8.toNat_ofNat', Nat.mod_eq_of_lt hc]
    have hr := idxByte_ok hΓ (c := UInt8.ofNat c) (by rw [hcc]; exact h) hs
    refine ⟨.int .i64 (Lib.indexByte s.data.toList (UInt8.ofNat c)), Lib.run_indexByteString (P := P) s (Int.ofNat c) w, ?_⟩
    rw [hr]
    have hge := Lib.indexByte_ge s.data.toList (UInt8.ofNat c)
    by_cases hm : Lib.indexByte s.data.toList (UInt8.ofNat c) = -1
    · rw [if_pos hm, hm]; exact .int _ _
    · rw [if_neg hm]
      have : Int.ofNat 0 + Lib.indexByte s.data.toList (UInt8.ofNat c) = Lib.indexByte s.data.toList (UInt8.ofNat c) := by simp
      rw [this]; exact .int _ _
  · rename_i l n c
    obtain ⟨hc, h⟩ := bif2_eq_ok h
    have hc : c < 256 := by simpa [Nat.blt_eq] using hc
    cases hv with
    | cons _ _ x _ p q =>
    cases q with
    | cons _ _ y _ p2 q2 =>
    cases q2
    cases p2
    cases p with
    | str _ _ s hs =>
    have hcc : (UInt8.ofNat c).toNat = c := by simp [UInt8.toNat_ofNat', Nat.mod_eq_of_lt hc]
    have hr := cntByte_ok hΓ (c := UInt8.ofNat c) (by rw [hcc]; exact h) hs
    refine ⟨.int .i64 (Lib.countByte s.data.toList (UInt8.ofNat c)), Lib.run_countString (P := P) s (Int.ofNat c) w, ?_⟩
    rw [hr, Nat.zero_add]
    exact .int _ _
  · rename_i n
    cases h
    cases hv with
    | cons _ _ x _ p q =>
    cases q
    cases p
    exact ⟨_, rfl, .flt _ _⟩
  · cases h
end Go.Proofs.YtekdmgmdhhkaoaaGreatDoor.SE
end

noncomputable section
namespace Go.Proofs.YtekdmgmdhhkaoaaGreatDoor.SE
variable {ρ : Val}

/-! ## tables, out of their entries -/
def unway : List Bool → Nat
  | [] => 0
  | true :: p => 2 * unway p + 1
  | false :: p => 2 * (unway p + 1)
theorem unway_way : ∀ (f i : Nat), i ≤ f → unway (way f i) = i
  | 0, i, h => by
    have : i = 0 := by omega
    subst this; rfl
  | f + 1, i, h => by
    rw [way_succ]
    have e1 : ∀ n, Nat.shiftRight n 1 = n / 2 := fun n => by show n >>> 1 = n / 2; rw [Nat.shiftRight_eq_div_pow]
    have e2 : ∀ n, Nat.land n 1 = n % 2 := fun n => by show n &&& 1 = n % 2; rw [Nat.and_one_is_mod]
    have e3 : ∀ n, Nat.sub (Nat.shiftRight n 1) 1 = n / 2 - 1 := fun n => by rw [e1]; rfl
    rw [e3, e2, e1]
    cases h0 : Nat.beq i 0 with
    | true => have := beqN h0; subst this; rfl
    | false =>
      have hi : i ≠ 0 := fun e => by subst e; cases h0
      cases h1 : Nat.beq (i % 2) 1 with
      | true =>
        have := beqN h1
        show 2 * unway (way f (i / 2)) + 1 = i
        rw [unway_way f (i / 2) (by omega)]
        omega
      | false =>
        have : i % 2 ≠ 1 := fun e => by rw [e] at h1; cases h1
        show 2 * (unway (way f (i / 2 - 1)) + 1) = i
        rw [unway_way f (i / 2 - 1) (by omega)]
        omega
/-- each entry of a tree, with its number -/
def T.All {α : Type} (c : Nat → α → Prop) : T α → (Nat → Nat) → Prop
  | .e, _ => True
  | .n l v r, g => (match v with | none => True | some x => c (g 0) x) ∧ T.All c l (fun k => g (2 * k + 1)) ∧ T.All c r (fun k => g (2 * (k + 1)))
theorem T.All.at {α : Type} {c : Nat → α → Prop} : ∀ (p : List Bool) (t : T α) (g : Nat → Nat) (x : α), T.All c t g → T.getW p t = some x → c (g (unway p)) x
  | [], .n l (some y) r, g, x, h, he => by
    have he : some y = some x := he
    cases he; exact h.1
  | [], .n l none r, g, x, h, he => by cases he
  | [], .e, g, x, h, he => by cases he
  | true :: p, .n l v r, g, x, h, he => T.All.at p l _ x h.2.1 he
  | false :: p, .n l v r, g, x, h, he => T.All.at p r _ x h.2.2 he
  | b :: p, .e, g, x, h, he => by cases he
theorem T.All.get {α : Type} {c : Nat → α → Prop} {t : T α} (h : T.All c t id) {i : Nat} {x : α} (he : t.get i = some x) : c i x := by
  have := T.All.at (wayOf i) t id x h he
  rw [show unway (wayOf i) = i from unway_way i i (Nat.le_refl _)] at this
  exact this
/-- a test of each entry -/
def T.all {α : Type} (c : α → Bool) : T α → Bool
  | .e => true
  | .n l v r => (match v with | none => true | some x => c x) && (T.all c l && T.all c r)
theorem T.all_get {α : Type} {c : α → Bool} : ∀ (p : List Bool) (t : T α) (x : α), T.all c t = true → T.getW p t = some x → c x = true
  | [], .n l (some y) r, x, h, he => by
    have he : some y = some x := he
    cases he
    simp only [T.all, Bool.and_eq_true] at h
    exact h.1
  | [], .n l none r, x, h, he => by cases he
  | [], .e, x, h, he => by cases he
  | true :: p, .n l v r, x, h, he => by
    simp only [T.all, Bool.and_eq_true] at h
    exact T.all_get p l x h.2.1 he
  | false :: p, .n l v r, x, h, he => by
    simp only [T.all, Bool.and_eq_true] at h
    exact T.all_get p r x h.2.2 he
  | b :: p, .e, x, h, he => by cases he

/-- a test of each entry's number -/
def T.allI {α : Type} (c : Nat → Bool) : T α → (Nat → Nat) → Bool
  | .e, _ => true
  | .n l v r, g => (match v with | none => true | some _ => c (g 0)) && (T.allI c l (fun k => g (2 * k + 1)) && T.allI c r (fun k => g (2 * (k + 1))))
theorem T.allI_at {α : Type} {c : Nat → Bool} : ∀ (p : List Bool) (t : T α) (g : Nat → Nat) (x : α), T.allI c t g = true → T.getW p t = some x → c (g (unway p)) = true
  | [], .n l (some y) r, g, x, h, he => by
    simp only [T.allI, Bool.and_eq_true] at h
    exact h.1
  | [], .n l none r, g, x, h, he => by cases he
  | [], .e, g, x, h, he => by cases he
  | true :: p, .n l v r, g, x, h, he => by
    simp only [T.allI, Bool.and_eq_true] at h
    exact T.allI_at p l _ x h.2.1 he
  | false :: p, .n l v r, g, x, h, he => by
    simp only [T.allI, Bool.and_eq_true] at h
    exact T.allI_at p r _ x h.2.2 he
  | b :: p, .e, g, x, h, he => by cases he
theorem T.allI_get {α : Type} {c : Nat → Bool} {t : T α} (h : T.allI c t id = true) {i : Nat} {x : α} (he : t.get i = some x) : c i = true := by
  have := T.allI_at (wayOf i) t id x h he
  rw [show unway (wayOf i) = i from unway_way i i (Nat.le_refl _)] at this
  exact this

/-! ## code: its operands are of the program -/
def opndB (n : Nat) : Operand → Bool
  | .global g => Nat.blt g n
  | _ => true
def operB (n nt : Nat) (o : Oper) : Bool := o.op.operands.toList.all (opndB n) && (match o.dst with | some d => Nat.blt d nt | none => true)
def codeB (n nt : Nat) : Code → Bool
  | .region _ ops _ => ops.toList.all (operB n nt)
  | .seq a b => codeB n nt a && codeB n nt b
  | .cond c a b => opndB n c && (codeB n nt a && codeB n nt b)
  | .block _ b => codeB n nt b
  | .loop b => codeB n nt b
  | .scope b => codeB n nt b
  | _ => true
theorem opndB_ok {P : Program} {o : Operand} (h : opndB P.globals.size o = true) : OperandOk P o := by
  intro g e
  subst e
  simpa [opndB, Nat.blt_eq] using h
theorem operB_ok {P : Program} {nt : Nat} {o : Oper} (h : operB P.globals.size nt o = true) : OperOk P o ∧ ∀ d, o.dst = some d → d < nt := by
  unfold operB at h
  rw [Bool.and_eq_true, List.all_eq_true] at h
  refine ⟨fun x hx => opndB_ok (h.1 x hx), fun d hd => ?_⟩
  have := h.2
  rw [hd] at this
  simpa [Nat.blt_eq] using this
theorem codeB_ok {P : Program} {nt : Nat} : ∀ {c : Code}, codeB P.globals.size nt c = true → CodeOk P nt c
  | .region _ ops _, h => by
    simp only [codeB, List.all_eq_true] at h
    exact fun o ho => operB_ok (h o ho)
  | .seq a b, h => by
    simp only [codeB, Bool.and_eq_true] at h
    exact ⟨codeB_ok h.1, codeB_ok h.2⟩
  | .cond c a b, h => by
    simp only [codeB, Bool.and_eq_true] at h
    exact ⟨opndB_ok h.1, codeB_ok h.2.1, codeB_ok h.2.2⟩
  | .block _ b, h => by simp only [codeB] at h; exact codeB_ok (c := b) h
  | .loop b, h => by simp only [codeB] at h; exact codeB_ok (c := b) h
  | .scope b, h => by simp only [codeB] at h; exact codeB_ok (c := b) h
  | .skip, _ => trivial
  | .rangeFunc .., _ => trivial
  | .exit _, _ => trivial
  | .label _, _ => trivial
  | .goto _, _ => trivial
  | .ret, _ => trivial
  | .refuse _, _ => trivial
def funcB (n : Nat) (fn : Func) : Bool :=
  match fn.body with
  | some c => !(fn.name == "runtime.NumGoroutine") && codeB n fn.ntmps c
  | none => true

/-- a function without a body, and what the model has for it -/
def ExtOk (P : Program) (f : FuncId) (e : Ext) : Prop :=
  ∃ fn, P.funcs[f]? = some fn ∧ (fn.name == "runtime.NumGoroutine") = false ∧ fn.body.isNone = true ∧ Extern.findNext fn = none ∧ Extern.find fn = some e.sem

theorem progs_of {Γ : Ctx} {T : Tab} {exts : List (FuncId × Ext)} (h1 : T.ok) (h2 : Γ.ok ρ) (h3 : T.P.follows .mixedOrders = true) (h4 : SE.T.all (funcB T.P.globals.size) T.fs = true)
    (h5 : ∀ x ∈ exts, ExtOk T.P x.1 x.2) : Progs Γ ρ T exts := by
  refine ⟨h1, h2, h3, ?_, ?_⟩
  · intro f fn c hf hb
    have := SE.T.all_get _ _ fn h4 hf
    unfold funcB at this
    rw [hb] at this
    simp only [Bool.and_eq_true, Bool.not_eq_true'] at this
    exact ⟨this.1, codeB_ok this.2⟩
  · intro f fn hf hb args vs ι h nx v h' nx' w he hv
    unfold extCall at he
    split at he
    · rename_i g e hfind
      have hg : g = f := by
        have := List.find?_some hfind
        exact Nat.eq_of_beq_eq_true this
      subst hg
      obtain ⟨fn', q1, q2, q3, q4, q5⟩ := h5 _ (List.mem_of_find?_eq_some hfind)
      split at he
      · rename_i u hu
        cases he
        obtain ⟨v', r1, r2⟩ := extA_ok (P := T.P) (w := w) h2 hu hv
        refine ⟨rfl, rfl, v', ?_, r2⟩
        rw [run_callFunc_extern q1 q2 q3 q4 q5, r1]
        rfl
      · cases he
    · cases he
end Go.Proofs.YtekdmgmdhhkaoaaGreatDoor.SE
end
