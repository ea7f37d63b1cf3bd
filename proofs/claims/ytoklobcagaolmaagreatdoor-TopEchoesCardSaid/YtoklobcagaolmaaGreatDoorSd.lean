/- SOUNDNESS, part 4: code, deferred calls, loops over functions, a function's run (callA_ok); functions without a body; tables. No condition. -/
import Derived.Test.YtoklobcagaolmaaGreatDoorSc
import Derived.LoopNIn
import Derived.Scope
import Derived.Lib.Bytealg
import Derived.Lib.MakeNoZero

noncomputable section
namespace Go.Proofs.YtoklobcagaolmaaGreatDoor.SE
variable {ρ : Val}

/-- what a run's end says -/
def PostOut (E : Env) (ρ : Val) (B : Base) (nt : Nat) (out : Out) (e : Exit) (a : Act) (w : World) : Prop :=
  match out with
  | .out .norm s => e = .normal ∧ Good E ρ B nt s a w
  | .out .ret s => e = .ret ∧ Good E ρ B nt s a w
  | .out (.exit i) s => e = .exit i ∧ Good E ρ B nt s a w
  | .bad _ => False

theorem stepR_scope {P : Program} {b : Frame} {a : Act} {k : List Item} {cs : List Frame} {w : World} {c : Code} : step P (lone (b.atR a (.code (.scope c) :: k)) cs w) = .next (lone (b.atR a (.code c :: .inScope c :: k)) cs w) :=
  step_lone_go (by simp [stepG, stepG.exec, Frame.atR])
theorem stepR_inScope {P : Program} {b : Frame} {a : Act} {k : List Item} {cs : List Frame} {w : World} {c : Code} : step P (lone (b.atR a (.inScope c :: k)) cs w) = .next (lone (b.atR a k) cs w) :=
  step_lone_go (by simp [stepG, stepG.exec, Frame.atR])
theorem wpIn_scope_straight {F : Fence} {n : Nat} {P : Program} {Q : Exit → Act → World → Prop} {a : Act} {w : World} {c : Code} (h : c.wpIn F n P (Exit.noGoto Q) a w) : (Code.scope c).wpIn F n P Q a w := by
  intro b k cs hro hb hr
  have i0 : (lone (b.atR a (.code (.scope c) :: k)) cs w).fenced P F := fenced_calm hb hr rfl
  obtain ⟨e, a₁, w₁, hq, harr⟩ := h b (.inScope c :: k) cs hro hb hr
  cases e with
  | normal =>
    exact ⟨.normal, a₁, w₁, hq, .head i0 stepR_scope (StepsIn.trans harr (.one (fenced_calm (fr := b.atR a₁ (.inScope c :: k)) hb hr rfl) stepR_inScope))⟩
  | exit id => exact ⟨.exit id, a₁, w₁, hq, .of_steps (.one i0 stepR_scope) ⟨fun k' hk => harr.1 k' (by simp [exitTo, hk]), fun h1 h2 => harr.2 h1 (by simp [exitTo, h2])⟩⟩
  | goto l => exact hq.elim
  | ret => exact ⟨_, a₁, w₁, hq, .of_steps (.one i0 stepR_scope) harr⟩
  | panic ch => exact ⟨_, a₁, w₁, hq, .of_steps (.one i0 stepR_scope) harr⟩
  | outgrown => exact ⟨_, a₁, w₁, hq, .of_steps (.one i0 stepR_scope) harr⟩

def Out.fine : Out → Prop
  | .bad _ => False
  | _ => True

section
variable {E : Env} (hE : EnvOk E ρ) {ro : Option Nat} (hro : E.rnd = false → ro = none) {m : Nat} {B : Base} {nt : Nat}
include hE hro

theorem loopBack_ok {h h' : T AO} {y was now : Nat} (he : loopBack h y was now = .ok h') : ∃ tm ps asg body d, h.get y = some (.loop was tm ps asg body d) ∧ h' = h.set y (.loop now tm ps asg body d) := by
  have _ := hro
  have _ := hE
  unfold loopBack at he
  obtain ⟨o, ho, he⟩ := opt_eq_ok he
  cases o with
  | loop st tm ps asg body d =>
    obtain ⟨h1, h2⟩ := bif2_eq_ok he
    have := beqN h1
    subst this
    cases h2
    exact ⟨tm, ps, asg, body, d, ho, rfl⟩
  | _ => cases he

/-- A LOOP OVER A FUNCTION -/
theorem range_ok' {f : Operand} {ps : Array Tmp} {asg body : Code} {tm : T AV} {df : List ADef} {h : T AO} {nx : Nat} {a : Act} {w : World} (hc : CodeOk E.P.P nt (.rangeFunc f ps asg body)) (hf : (rangeA f ps asg body E ⟨tm, df, h, nx⟩).fine)
    (hg : Good E ρ B nt ⟨tm, df, h, nx⟩ a w) : (Code.rangeFunc f ps asg body).wpIn (W ro) m E.P.P (PostOut E ρ B nt (rangeA f ps asg body E ⟨tm, df, h, nx⟩)) a w := by
  obtain ⟨hc1, hc2, hc3, hc4⟩ := hc
  have e : rangeA f ps asg body E ⟨tm, df, h, nx⟩ = bif2 E.rnd (.bad "a loop over a function in a round") ((ev tm f).elim (fun v => opt v.func? (.bad "rangeFunc: no function") fun g => bif2 (hasBody E.P g.1)
      ((E.call g.1 (List.append g.2.1 (List.append [.yld (Nat.add nx 1)] g.2.2)) ((h.set nx (.dfs true)).set (Nat.add nx 1) (.loop 0 tm ps.toList asg body nx)) (Nat.add nx 2)).elim
        (fun r => r.elim fun _ h' nx' => (loopBack h' (Nat.add nx 1) 0 2).elim (fun h2 => .out .norm ⟨tm, .coll nx :: df, h2, nx'⟩) .bad) (fun w => .bad (w ++ " < rangeFunc")))
      (.bad "rangeFunc: no body")) .bad) := rfl
  rw [e] at hf ⊢
  cases hr : E.rnd with
  | true => rw [hr] at hf; exact hf.elim
  | false =>
  have := hro hr
  subst this
  rw [hr] at hf
  simp only [bif2_false] at hf ⊢
  cases h1 : ev tm f with
  | no t => rw [h1] at hf; exact hf.elim
  | ok v =>
  rw [h1] at hf
  simp only [R.elim_ok] at hf ⊢
  cases hvf : v.func? with
  | none => rw [hvf] at hf; exact hf.elim
  | some g =>
  rw [hvf] at hf
  simp only [opt_some] at hf ⊢
  cases h3 : hasBody E.P g.1 with
  | false => rw [h3] at hf; exact hf.elim
  | true =>
  rw [h3] at hf
  simp only [bif2_true] at hf ⊢
  cases h4 : E.call g.1 (List.append g.2.1 (List.append [.yld (Nat.add nx 1)] g.2.2)) ((h.set nx (.dfs true)).set (Nat.add nx 1) (.loop 0 tm ps.toList asg body nx)) (Nat.add nx 2) with
  | no t => rw [h4] at hf; exact hf.elim
  | ok x =>
  obtain ⟨v1, h', nx'⟩ := x
  rw [h4] at hf
  have hf : ((loopBack h' (Nat.add nx 1) 0 2).elim (fun h2 => Out.out .norm ⟨tm, .coll nx :: df, h2, nx'⟩) .bad).fine := hf
  show (Code.rangeFunc f ps asg body).wpIn (W none) m E.P.P (PostOut E ρ B nt ((loopBack h' (Nat.add nx 1) 0 2).elim (fun h2 => Out.out .norm ⟨tm, .coll nx :: df, h2, nx'⟩) .bad)) a w
  cases h5 : loopBack h' (Nat.add nx 1) 0 2 with
  | no t => rw [h5] at hf; exact hf.elim
  | ok h2 =>
  simp only [R.elim_ok]
  obtain ⟨ι, hHR, hAR, hDR, hN⟩ := hg.rel
  have hv := ev_ok hHR.glob hAR hc1 h1
  rw [func?_eq hvf] at hv
  generalize hfv : a.eval f = fv at hv
  cases hv with
  | func _ _ _ a' b' hva hvb =>
  refine wpIn_rangeFunc ?_
  intro fn _
  -- the two blocks
  have A1 := hHR.alloc (.deferred (some [])) (.dfs true) 0 (w.alloc (.deferred (some []))) rfl ⟨rfl, rfl, rfl⟩ rfl ⟨rfl, by show (w.heap.push _)[w.heap.size]? = _; rw [push_get, if_pos rfl]; rfl⟩
  generalize hw0 : w.alloc (.deferred (some [])) = w0 at A1
  have hs0 : w0.heap.size = w.heap.size + 1 := by rw [← hw0]; show (w.heap.push _).size = _; rw [Array.size_push]
  have hrec : (w0.alloc (.loop { state := .ready, pending := none, fn := fn, tmps := a.tmps, params := ps, assign := asg, body := body, defers := w.heap.size })).heap = w0.heap.push (.loop { state := .ready, pending := none, fn := fn, tmps := a.tmps, params := ps, assign := asg, body := body, defers := w.heap.size }) := rfl
  have hle1 : ι.le (ι.put nx ⟨w.heap.size, 0, 0⟩) := A1.2.le
  have hi2 : (ι.put nx ⟨w.heap.size, 0, 0⟩) (nx + 1) = none := A1.1.none_of_ge (Nat.le_refl _)
  have hle2 := Io.le_put (ι := ι.put nx ⟨w.heap.size, 0, 0⟩) (id := nx + 1) ⟨w0.heap.size, 0, 0⟩ hi2
  have A2 := A1.1.alloc (.loop { state := .ready, pending := none, fn := fn, tmps := a.tmps, params := ps, assign := asg, body := body, defers := w.heap.size }) (.loop 0 tm ps.toList asg body nx) 0
    (w0.alloc (.loop { state := .ready, pending := none, fn := fn, tmps := a.tmps, params := ps, assign := asg, body := body, defers := w.heap.size })) hrec ⟨rfl, rfl, rfl⟩ rfl
    ⟨rfl, a.tmps, fn, ⟨w.heap.size, 0, 0⟩, nt, hle2 _ _ (Io.put_same _ _ _), fun t x hx => ((hAR.tmps t x hx).mono hle1).mono hle2, hAR.size, hc2, hc3, hc4, by rw [hrec, push_get, if_pos rfl]; simp [loopSt]⟩
  generalize hw1 : w0.alloc (.loop { state := .ready, pending := none, fn := fn, tmps := a.tmps, params := ps, assign := asg, body := body, defers := w.heap.size }) = w1 at A2
  obtain ⟨B1, B2⟩ := A2
  have hN2 : Nxt ι h w nx _ _ w1 (nx + 1 + 1) := A1.2.trans B2
  obtain ⟨yv, hyv⟩ : ∃ yv : Value, yv = .func (.yield (w.heap.size + 1)) #[] #[] := ⟨_, rfl⟩
  have hyl : VR ρ ((ι.put nx ⟨w.heap.size, 0, 0⟩).put (nx + 1) ⟨w0.heap.size, 0, 0⟩) (.yld (nx + 1)) yv := by
    have h := VR.yld (ρ := ρ) (nx + 1) _ (Io.put_same (ι.put nx ⟨w.heap.size, 0, 0⟩) (nx + 1) ⟨w0.heap.size, 0, 0⟩)
    have e : yv = (Value.func (.yield (⟨w0.heap.size, 0, 0⟩ : Loc).blk) #[] #[]) := by rw [hyv, ← hs0]
    rw [e]; exact h
  have hargs : VRs ρ ((ι.put nx ⟨w.heap.size, 0, 0⟩).put (nx + 1) ⟨w0.heap.size, 0, 0⟩) (List.append g.2.1 (List.append [.yld (Nat.add nx 1)] g.2.2)) (a'.toList ++ ([yv] ++ b'.toList)) :=
    VRs.append ((hva.mono hle1).mono hle2) (VRs.append (VRs.cons _ _ _ _ hyl .nil) ((hvb.mono hle1).mono hle2))
  have hcall := hE.call g.1 _ _ _ v1 h' nx' h4 _ w1 _ B1 hargs
  have harr : (a'.toList ++ ([yv] ++ b'.toList)).toArray = a' ++ #[yv] ++ b' := by
    apply Array.ext'; simp
  rw [harr] at hcall
  have hent := hE.enter g.1 h3 (a' ++ #[yv] ++ b') w1
  rcases hcall with ⟨v', w', ι', c1, _⟩ | ⟨_, c2⟩
  · rw [hent] at c1; cases c1
  have hinv : (invoke (Target.fn (.func g.1) b') (a' ++ #[yv])).run E.P.P w1 = .ok (.enter g.1 (a' ++ #[yv] ++ b')) w1 := hent
  have hent2 : (Instr.enterLoop fn a.tmps ps asg body none).run E.P.P w = .ok (w.heap.size + 1, [{ target := .collected w.heap.size, args := #[] }]) w1 := by
    rw [← hw1, ← hw0]; exact run_enterLoop_outer _ _ _ _ _
  have hres : (resolve a.eval (rangeCall f (w.heap.size + 1)) 0).run E.P.P w1 = .ok { target := .fn (.func g.1) b', args := a' ++ #[yv] } w1 := by
    have hm : Array.map a.eval #[Operand.const (Value.func (.yield (w.heap.size + 1)) #[] #[])] = #[yv] := by rw [hyv]; simp; rfl
    simp only [resolve, hfv]
    rw [hm]
    rfl
  refine ⟨_, _, w1, _, w1, g.1, _, w1, hent2, hres, fun _ _ => trivial, hinv, W_depth, CallsIn.mono (callsIn_W c2) ?_⟩
  · rintro ee w3 ⟨v', ι', e1, e2, e3, e4⟩
    subst e1
    obtain ⟨tm2, ps2, asg2, body2, d2, g1, g2⟩ := loopBack_ok hE hro h5
    obtain ⟨l2, k1, k2⟩ := e3.obj _ _ g1
    have k3 := e4.le _ _ (Io.put_same (ι.put nx ⟨w.heap.size, 0, 0⟩) (nx + 1) ⟨w0.heap.size, 0, 0⟩)
    have k4 : ι' (Nat.add nx 1) = some ⟨w0.heap.size, 0, 0⟩ := k3
    rw [k1] at k4; cases k4
    obtain ⟨o0, tmps2, fn2, dl2, nt2, o1, o2, o3, o4, o5, o6, o7⟩ := k2
    have o7 : w3.heap[w.heap.size + 1]? = some (.loop { state := .ready, pending := none, fn := fn2, tmps := tmps2, params := ps2.toArray, assign := asg2, body := body2, defers := dl2.blk }) := by rw [← hs0]; exact o7
    have hend := run_endLoop (P := E.P.P) o7 (by intro h; cases h)
    refine ⟨none, _, hend, rfl, ?_⟩
    have hW := e3.write g1 k1 (.loop { state := .exhausted, pending := none, fn := fn2, tmps := tmps2, params := ps2.toArray, assign := asg2, body := body2, defers := dl2.blk }) (o' := .loop 2 tm2 ps2 asg2 body2 d2) rfl
      ⟨rfl, tmps2, fn2, dl2, nt2, o1, o2, o3, o4, o5, o6, by
        show (setBlk w3 w0.heap.size _).heap[w0.heap.size]? = _
        rw [hs0, setBlk_get, if_pos ⟨rfl, heap_lt o7⟩]; rfl⟩
    have hwr : w3.putObj (w.heap.size + 1) (.loop { state := .exhausted, pending := none, fn := fn2, tmps := tmps2, params := ps2.toArray, assign := asg2, body := body2, defers := dl2.blk }) = setBlk w3 w0.heap.size (.loop { state := .exhausted, pending := none, fn := fn2, tmps := tmps2, params := ps2.toArray, assign := asg2, body := body2, defers := dl2.blk }) := by rw [hs0]; rfl
    rw [hwr]
    have hum : (unmate h' (.loop 0 tm2 ps2 asg2 body2 d2)).set (Nat.add nx 1) (.loop 2 tm2 ps2 asg2 body2 d2) = h2 := by rw [g2]; rfl
    rw [hum] at hW
    have hle3 : ι.le ι' := Io.le_trans hle1 (Io.le_trans hle2 e4.le)
    refine ⟨ι', hW.1, ⟨(hAR.mono hle3).tmps, hAR.size⟩, .cons _ _ _ _ ⟨⟨w.heap.size, 0, 0⟩, e4.le _ _ (hle2 _ _ (Io.put_same _ _ _)), rfl⟩ (hDR.mono hle3), hN.trans (hN2.trans (e4.trans hW.2))⟩


theorem ex_ok : ∀ (c : Code) (s : St) (a : Act) (w : World), CodeOk E.P.P nt c → (ex c E s).fine → Good E ρ B nt s a w → c.wpIn (W ro) m E.P.P (PostOut E ρ B nt (ex c E s)) a w
  | .skip, s, a, w, _, _, hg => wpIn_skip ⟨rfl, hg⟩
  | .label l, s, a, w, _, _, hg => wpIn_label ⟨rfl, hg⟩
  | .exit id, s, a, w, _, _, hg => wpIn_exit ⟨rfl, hg⟩
  | .ret, s, a, w, _, _, hg => wpIn_ret ⟨rfl, hg⟩
  | .region id ops draw, s, a, w, hc, hf, hg => by
    have e : ex (.region id ops draw) E s = (bif2 draw (runDraw ops E s) (runOps ops E ops.toList s)).out := rfl
    rw [e] at hf ⊢
    cases draw with
    | true =>
      have hf : (runDraw ops E s).out.fine := hf
      show (Code.region id ops true).wpIn (W ro) m E.P.P (PostOut E ρ B nt (runDraw ops E s).out) a w
      cases hr : runDraw ops E s with
      | no t => rw [hr] at hf; exact hf.elim
      | ok r => exact wpIn_mono (runDraw_ok hE hc hr hg) fun e a w h => h
    | false =>
      have hf : (runOps ops E ops.toList s).out.fine := hf
      show (Code.region id ops false).wpIn (W ro) m E.P.P (PostOut E ρ B nt (runOps ops E ops.toList s).out) a w
      cases hr : runOps ops E ops.toList s with
      | no t => rw [hr] at hf; exact hf.elim
      | ok r =>
        refine wpIn_region ?_
        have := runOps_ok (m := m) hE hro hc (Q := PostOut E ρ B nt (R.ok r).out) (fun a w h => ⟨rfl, h⟩) _ _ 0 s a w rfl rfl hr hg
        simpa using this
  | .seq x y, s, a, w, hc, hf, hg => by
    have e : ex (.seq x y) E s = (ex x E s).then (ex y E) := rfl
    rw [e] at hf ⊢
    refine wpIn_seq ?_
    cases hx : ex x E s with
    | bad t => rw [hx] at hf; exact hf.elim
    | out xx s1 =>
      rw [hx] at hf
      have ih := ex_ok x s a w hc.1 (by rw [hx]; trivial) hg
      rw [hx] at ih
      refine wpIn_mono ih ?_
      intro e1 a1 w1 h1
      cases xx with
      | norm =>
        obtain ⟨e2, hg1⟩ := h1
        subst e2
        have hf : (ex y E s1).fine := hf
        exact ex_ok y s1 a1 w1 hc.2 hf hg1
      | ret => obtain ⟨e2, hg1⟩ := h1; subst e2; exact ⟨rfl, hg1⟩
      | exit i => obtain ⟨e2, hg1⟩ := h1; subst e2; exact ⟨rfl, hg1⟩
  | .cond c x y, s, a, w, hc, hf, hg => by
    have e : ex (.cond c x y) E s = (ev s.tm c).elim (fun v => opt v.bool? (.bad "cond") fun q => bif2 q (ex x E s) (ex y E s)) .bad := rfl
    rw [e] at hf ⊢
    cases h1 : ev s.tm c with
    | no t => rw [h1] at hf; exact hf.elim
    | ok v =>
      rw [h1] at hf
      have hf : (opt v.bool? (.bad "cond") fun q => bif2 q (ex x E s) (ex y E s)).fine := hf
      show (Code.cond c x y).wpIn (W ro) m E.P.P (PostOut E ρ B nt (opt v.bool? (.bad "cond") fun q => bif2 q (ex x E s) (ex y E s))) a w
      cases h2 : v.bool? with
      | none => rw [h2] at hf; exact hf.elim
      | some q =>
        rw [h2] at hf
        obtain ⟨ι, hHR, hAR, _⟩ := hg.rel
        have hv := ev_ok hHR.glob hAR hc.1 h1
        rw [bool?_eq h2] at hv
        generalize hq : a.eval c = cv at hv
        cases hv
        refine wpIn_cond hq ?_
        cases q with
        | true => exact ex_ok x s a w hc.2.1 hf hg
        | false => exact ex_ok y s a w hc.2.2 hf hg
  | .block id x, s, a, w, hc, hf, hg => by
    have e : ex (.block id x) E s = (ex x E s).block id := rfl
    rw [e] at hf ⊢
    refine wpIn_block ?_
    cases hx : ex x E s with
    | bad t => rw [hx] at hf; exact hf.elim
    | out xx s1 =>
      rw [hx] at hf
      have ih := ex_ok x s a w hc (by rw [hx]; trivial) hg
      rw [hx] at ih
      refine wpIn_mono ih ?_
      intro e1 a1 w1 h1
      cases xx with
      | norm => obtain ⟨e2, hg1⟩ := h1; subst e2; exact ⟨rfl, hg1⟩
      | ret => obtain ⟨e2, hg1⟩ := h1; subst e2; exact ⟨rfl, hg1⟩
      | exit i =>
        obtain ⟨e2, hg1⟩ := h1
        subst e2
        show (if i = id then _ else _ : Prop)
        have eb : (Out.out (.exit i) s1).block id = bif2 (Nat.beq i id) (.out .norm s1) (.out (.exit i) s1) := rfl
        rw [eb]
        by_cases hi : i = id
        · subst hi
          rw [if_pos rfl, show Nat.beq i i = true from Nat.beq_refl i]
          exact ⟨rfl, hg1⟩
        · rw [if_neg hi]
          have : Nat.beq i id = false := by
            cases hb : Nat.beq i id with
            | false => rfl
            | true => exact absurd (Nat.eq_of_beq_eq_true hb) hi
          rw [this]
          exact ⟨rfl, hg1⟩
  | .loop x, s, a, w, hc, hf, hg => by
    have e : ex (.loop x) E s = loopA (ex x) E s := rfl
    rw [e] at hf ⊢
    unfold loopA at hf ⊢
    refine wpIn_loop_rounds E.rounds ?_
    generalize E.rounds = n at hf ⊢
    -- the rounds one by one
    have key : ∀ n (out : Out) s a w, iter n (ex x E) s = out → out.fine → Good E ρ B nt s a w → Code.roundsIn (W ro) m E.P.P x (PostOut E ρ B nt out) n a w := by
      intro n
      induction n with
      | zero => intro out s a w he hf hg; subst he; exact hf.elim
      | succ n ih =>
        intro out s a w he hf hg
        have he : (ex x E s).elim (fun xx s' => xx.elim (iter n (ex x E) s') (.out .ret s') (fun i => .out (.exit i) s')) .bad = out := he
        cases hx : ex x E s with
        | bad t => rw [hx] at he; subst he; exact hf.elim
        | out xx s1 =>
          rw [hx] at he
          have ih1 := ex_ok x s a w hc (by rw [hx]; trivial) hg
          rw [hx] at ih1
          refine wpIn_mono ih1 ?_
          intro e1 a1 w1 h1
          cases xx with
          | norm => obtain ⟨e2, hg1⟩ := h1; subst e2; exact ih out s1 a1 w1 he hf hg1
          | ret =>
            obtain ⟨e2, hg1⟩ := h1; subst e2
            have he : Out.out .ret s1 = out := he
            subst he; exact ⟨rfl, hg1⟩
          | exit i =>
            obtain ⟨e2, hg1⟩ := h1; subst e2
            have he : Out.out (.exit i) s1 = out := he
            subst he; exact ⟨rfl, hg1⟩
    exact key n _ s a w rfl hf hg
  | .scope x, s, a, w, hc, hf, hg => by
    have e : ex (.scope x) E s = ex x E s := rfl
    rw [e] at hf ⊢
    refine wpIn_scope_straight ?_
    have ih := ex_ok x s a w hc hf hg
    refine wpIn_mono ih ?_
    intro e1 a1 w1 h1
    cases hx : ex x E s with
    | bad t => rw [hx] at hf; exact hf.elim
    | out xx s1 =>
      rw [hx] at h1
      cases xx with
      | norm => obtain ⟨e2, hg1⟩ := h1; subst e2; exact ⟨rfl, hg1⟩
      | ret => obtain ⟨e2, hg1⟩ := h1; subst e2; exact ⟨rfl, hg1⟩
      | exit i => obtain ⟨e2, hg1⟩ := h1; subst e2; exact ⟨rfl, hg1⟩
  | .rangeFunc f ps asg body, s, a, w, hc, hf, hg => by
    obtain ⟨tm, df, h, nx⟩ := s
    have e : ex (.rangeFunc f ps asg body) E ⟨tm, df, h, nx⟩ = rangeA f ps asg body E ⟨tm, df, h, nx⟩ := rfl
    rw [e] at hf ⊢
    exact range_ok' hE hro hc hf hg
  | .goto l, s, a, w, _, hf, _ => hf.elim
  | .refuse _, s, a, w, _, hf, _ => hf.elim
end
end Go.Proofs.YtoklobcagaolmaaGreatDoor.SE
end

noncomputable section
namespace Go.Proofs.YtoklobcagaolmaaGreatDoor.SE
variable {ρ : Val}

/-! ## a deferred call's own body -/
theorem isRec_ok {o : Oper} (h : isRec o.op = true) (a : Act) (P : Program) (w : World) : (execOp a.eval o).run P w = .ok .recover w := by
  unfold isRec at h
  split at h
  · rename_i args ts hop
    have hx : execOp a.eval o = (do let d ← resolve a.eval ⟨.builtin .recover, args, ts⟩ o.type; invoke d.target d.args) := by unfold execOp; rw [hop]
    rw [hx]
    rfl
  · cases h

section
variable {E : Env} (hE : EnvOk E ρ) {m : Nat} {B : Base} {nt : Nat} {cs : List Frame} (hcs : recoverD cs = none)
include hE hcs

theorem runOpsD_ok {ops : Array Oper} (hops : OpsOk E.P.P nt ops.toList) {Q : Exit → Act → List Frame → World → Prop} {r : St}
    (hQ : ∀ a w, Good E ρ B nt r a w → Q .normal a cs w) :
    ∀ (n : Nat) (l : List Oper) (i : Nat) (s : St) (a : Act) (w : World), ops.toList.drop i = l → l.length = n → runOpsD ops E l s = .ok r → Good E ρ B nt s a w →
      wpOpsSIn (W none) m E.P.P ops Q ((List.range ops.size).drop i) a cs w
  | 0, l, i, s, a, w, hl, hn, hr, hg => by
    have hl0 : l = [] := List.length_eq_zero_iff.1 hn
    subst hl0
    have hi : ops.size ≤ i := by
      have := List.drop_eq_nil_iff.1 hl
      simpa using this
    have hd : (List.range ops.size).drop i = [] := List.drop_eq_nil_iff.2 (by simpa using hi)
    rw [hd]
    cases hr
    exact hQ a w hg
  | n + 1, l, i, s, a, w, hl, hn, hr, hg => by
    cases l with
    | nil => cases hn
    | cons o rest =>
      have hi : i < ops.size := by
        rcases Nat.lt_or_ge i ops.size with h | h
        · exact h
        · rw [List.drop_eq_nil_iff.2 (by simpa using h)] at hl; cases hl
      have ho : ops[i]? = some o := by
        have := congrArg (fun (l : List Oper) => l[0]?) hl
        simpa using this
      have hrest : ops.toList.drop (i + 1) = rest := by
        have := congrArg List.tail hl
        simpa using this
      have hlen : rest.length = n := by simpa using hn
      have hd : (List.range ops.size).drop i = i :: (List.range ops.size).drop (i + 1) := by
        rw [List.drop_eq_getElem_cons (by simpa using hi)]
        simp
      rw [hd]
      have hmem : o ∈ ops.toList := by
        have : o ∈ ops.toList.drop i := by rw [hl]; exact List.mem_cons_self
        exact List.mem_of_mem_drop this
      obtain ⟨hop, hdst⟩ := hops o hmem
      obtain ⟨ι, hHR, hAR, hDR, hN⟩ := hg.rel
      have ih := fun (s' : St) (a' : Act) (w' : World) (hr' : runOpsD ops E rest s' = .ok r) (hg' : Good E ρ B nt s' a' w') => runOpsD_ok hops hQ n rest (i + 1) s' a' w' hrest hlen hr' hg'
      have one : runOpD o.dst o.op o.pos (runOpsD ops E rest) E s.tm s.df s.h s.nx = .ok r →
          (match (execOp a.eval o).run E.P.P w with
          | .ok .recover w' =>
            match recoverD cs with
            | some (v, cs') => wpOpsSIn (W none) m E.P.P ops Q ((List.range ops.size).drop (i + 1)) (a.put o.dst v) cs' w'
            | none => wpOpsSIn (W none) m E.P.P ops Q ((List.range ops.size).drop (i + 1)) (a.put o.dst .nilIface) cs w'
          | .ok (.value v) w' => wpOpsSIn (W none) m E.P.P ops Q ((List.range ops.size).drop (i + 1)) (a.put o.dst v) cs w'
          | .ok .skip w' => wpOpsSIn (W none) m E.P.P ops Q ((List.range ops.size).drop (i + 1)) (a.put o.dst undef) cs w'
          | .halt (.panic v) w' => Q (.panic [{ v, recovered := false }]) a cs w'
          | _ => False) := by
        intro hrun
        unfold runOpD stepD at hrun
        cases hrec : isRec o.op with
        | true =>
          rw [hrec] at hrun
          have hrun : runOpsD ops E rest ⟨putA o.dst s.tm .niliface, s.df, s.h, s.nx⟩ = .ok r := hrun
          rw [isRec_ok hrec]
          simp only [hcs]
          exact ih _ _ _ hrun ⟨ι, hHR, hAR.put hdst .niliface, by cases hd : o.dst <;> exact hDR, hN⟩
        | false =>
        rw [hrec] at hrun
        simp only [bif2_false] at hrun
        have H : Here E ρ ι s.nx s.h w s.tm a nt := ⟨hE.tab, hE.ctx, hHR, hAR⟩
        have hs := step_ok H (o := o) hop
        cases hst : stepA o.op E s.tm s.h s.nx with
        | no why => rw [hst] at hrun; cases hrun
        | call g args => rw [hst] at hrun; cases hrun
        | defer g args => rw [hst] at hrun; cases hrun
        | round g args => rw [hst] at hrun; cases hrun
        | val v =>
          rw [hst] at hs hrun
          obtain ⟨v', h1, h2⟩ := hs
          rw [h1]
          exact ih _ _ _ hrun ⟨ι, hHR, hAR.put hdst h2, by cases hd : o.dst <;> exact hDR, hN⟩
        | eff v h' nx' =>
          rw [hst] at hs hrun
          obtain ⟨w', ι', h1, h2, h3⟩ := hs
          have hN' := hN.trans h3
          rcases h1 with ⟨v', h1, hv⟩ | ⟨h1, hv⟩
          · rw [h1]
            exact ih _ _ _ hrun ⟨ι', h2, (hAR.mono h3.le).put hdst hv, by cases hd : o.dst <;> exact hDR.mono h3.le, hN'⟩
          · rw [h1]
            subst hv
            exact ih _ _ _ hrun ⟨ι', h2, (hAR.mono h3.le).put hdst undef_ok, by cases hd : o.dst <;> exact hDR.mono h3.le, hN'⟩
      have hr : (opt o.guard (runOpD o.dst o.op o.pos (runOpsD ops E rest) E s.tm s.df s.h s.nx) (fun g => opt (yieldedA ops s.tm g.1 g.2) (.no "guard") fun q => bif2 q (runOpD o.dst o.op o.pos (runOpsD ops E rest) E s.tm s.df s.h s.nx) (runOpsD ops E rest ⟨putA o.dst s.tm undefA, s.df, s.h, s.nx⟩))) = .ok r := hr
      simp only [wpOpsSIn, ho]
      refine ⟨fun _ _ => trivial, ?_⟩
      unfold Region.wanted
      cases hgd : o.guard with
      | none =>
        rw [hgd] at hr
        simp only [if_true]
        exact one hr
      | some g =>
        obtain ⟨j, want⟩ := g
        rw [hgd] at hr
        simp only [opt_some] at hr
        simp only
        obtain ⟨q, hy, hr⟩ := opt_eq_ok hr
        have hyw := yielded_ok hAR ops j want hy
        cases q with
        | true =>
          rw [if_pos hyw]
          exact one hr
        | false =>
          rw [if_neg (by rw [hyw]; decide)]
          exact ih _ _ _ hr ⟨ι, hHR, hAR.put hdst undef_ok, by cases hd : o.dst <;> exact hDR, hN⟩

/-- what a deferred call's run says: the stack is as it was -/
def PostD (E : Env) (ρ : Val) (B : Base) (nt : Nat) (cs : List Frame) (out : Out) (e : Exit) (a : Act) (cs' : List Frame) (w : World) : Prop := cs' = cs ∧ PostOut E ρ B nt out e a w

theorem exD_ok (_ : E.rnd = false) : ∀ (c : Code) (s : St) (a : Act) (w : World), CodeOk E.P.P nt c → (exD c E s).fine → Good E ρ B nt s a w → c.wpSIn (W none) m E.P.P (PostD E ρ B nt cs (exD c E s)) a cs w := by
  have hro : E.rnd = false → (none : Option Nat) = none := fun _ => rfl
  have plain : ∀ (c : Code) (s : St) (a : Act) (w : World), CodeOk E.P.P nt c → (ex c E s).fine → Good E ρ B nt s a w → c.wpSIn (W none) m E.P.P (PostD E ρ B nt cs (ex c E s)) a cs w := fun c s a w hc hf hg =>
    wpSIn_of_wpIn rfl (wpIn_mono (ex_ok hE hro c s a w hc hf hg) fun e a w h => ⟨rfl, h⟩)
  intro c
  induction c with
  | skip => exact plain _
  | label l => exact plain _
  | exit id => exact plain _
  | ret => exact plain _
  | block id b _ => exact plain _
  | loop b _ => exact plain _
  | scope b _ => exact plain _
  | rangeFunc f ps a b _ _ => intro s a w _ hf _; exact hf.elim
  | goto l => intro s a w _ hf _; exact hf.elim
  | refuse w => intro s a w _ hf _; exact hf.elim
  | region id ops draw =>
    intro s a w hc hf hg
    have e : exD (.region id ops draw) E s = bif2 (hasRec ops.toList) (bif2 draw (.bad "recover drawn") (runOpsD ops E ops.toList s).out) (ex (.region id ops draw) E s) := rfl
    rw [e] at hf ⊢
    cases hh : hasRec ops.toList with
    | false => rw [hh] at hf; exact plain _ s a w hc hf hg
    | true =>
      rw [hh] at hf
      cases draw with
      | true => exact hf.elim
      | false =>
        have hf : (runOpsD ops E ops.toList s).out.fine := hf
        show (Code.region id ops false).wpSIn (W none) m E.P.P (PostD E ρ B nt cs (runOpsD ops E ops.toList s).out) a cs w
        cases hr : runOpsD ops E ops.toList s with
        | no t => rw [hr] at hf; exact hf.elim
        | ok r =>
          refine wpSIn_region ?_
          have := runOpsD_ok hE hcs (m := m) hc (Q := PostD E ρ B nt cs (R.ok r).out) (fun a w h => ⟨rfl, rfl, h⟩) _ _ 0 s a w rfl rfl hr hg
          simpa using this
  | seq x y ihx ihy =>
    intro s a w hc hf hg
    have e : exD (.seq x y) E s = (exD x E s).then (exD y E) := rfl
    rw [e] at hf ⊢
    refine wpSIn_seq ?_
    have hm : ∀ {Q Q' : Exit → Act → List Frame → World → Prop} {c : Code} {a : Act} {cs : List Frame} {w : World}, (∀ e a cs w, Q e a cs w → Q' e a cs w) → c.wpSIn (W none) m E.P.P Q a cs w → c.wpSIn (W none) m E.P.P Q' a cs w :=
      fun hq h b k h1 h2 h3 h4 => let ⟨e, a', cs', w', l, q, r⟩ := h b k h1 h2 h3 h4; ⟨e, a', cs', w', l, hq _ _ _ _ q, r⟩
    cases hx : exD x E s with
    | bad t => rw [hx] at hf; exact hf.elim
    | out xx s1 =>
      rw [hx] at hf
      have ih := ihx s a w hc.1 (by rw [hx]; trivial) hg
      rw [hx] at ih
      refine hm ?_ ih
      rintro e1 a1 cs1 w1 ⟨rfl, h1⟩
      cases xx with
      | norm =>
        obtain ⟨e2, hg1⟩ := h1
        subst e2
        have hf : (exD y E s1).fine := hf
        exact ihy s1 a1 w1 hc.2 hf hg1
      | ret => obtain ⟨e2, hg1⟩ := h1; subst e2; exact ⟨rfl, rfl, hg1⟩
      | exit i => obtain ⟨e2, hg1⟩ := h1; subst e2; exact ⟨rfl, rfl, hg1⟩
  | cond c x y ihx ihy =>
    intro s a w hc hf hg
    have e : exD (.cond c x y) E s = (ev s.tm c).elim (fun v => opt v.bool? (.bad "cond") fun q => bif2 q (exD x E s) (exD y E s)) .bad := rfl
    rw [e] at hf ⊢
    cases h1 : ev s.tm c with
    | no t => rw [h1] at hf; exact hf.elim
    | ok v =>
      rw [h1] at hf
      have hf : (opt v.bool? (.bad "cond") fun q => bif2 q (exD x E s) (exD y E s)).fine := hf
      show (Code.cond c x y).wpSIn (W none) m E.P.P (PostD E ρ B nt cs (opt v.bool? (.bad "cond") fun q => bif2 q (exD x E s) (exD y E s))) a cs w
      cases h2 : v.bool? with
      | none => rw [h2] at hf; exact hf.elim
      | some q =>
        rw [h2] at hf
        obtain ⟨ι, hHR, hAR, _⟩ := hg.rel
        have hv := ev_ok hHR.glob hAR hc.1 h1
        rw [bool?_eq h2] at hv
        generalize hq : a.eval c = cv at hv
        cases hv
        refine wpSIn_cond hq ?_
        cases q with
        | true => exact ihx s a w hc.2.1 hf hg
        | false => exact ihy s a w hc.2.2 hf hg
end
end Go.Proofs.YtoklobcagaolmaaGreatDoor.SE
end

noncomputable section
namespace Go.Proofs.YtoklobcagaolmaaGreatDoor.SE
variable {ρ : Val} {ι : Io}

/-! ## results and arguments -/
def resultOf (a : Act) : ResultVar → Sem Value
  | .tmp t => pure (a.tmps.getD t undef)
  | .cell c t => do loadVar t (← asAddr (a.tmps.getD c undef))
section
variable {E : Env} (hT : E.P.ok) {nt : Nat}
include hT

theorem resultsA_ok {nx : Nat} {h : T AO} {w : World} (hr : HR ρ E.P.P ι nx h w) {tm : T AV} {a : Act} (ha : AR ρ ι tm a nt) : ∀ {l : List ResultVar} {vs : List AV}, resultsA E.P tm h l = .ok vs →
    ∃ r : List Value, (l.mapM (resultOf a)).run E.P.P w = .ok r w ∧ VRs ρ ι vs r
  | [], vs, he => by cases he; exact ⟨[], rfl, .nil⟩
  | .tmp t :: l, vs, he => by
    unfold resultsA at he
    split at he
    · rename_i v q hv hq
      cases he
      obtain ⟨r, r1, r2⟩ := resultsA_ok hr ha hq
      exact ⟨a.tmps.getD t undef :: r, by simp only [List.mapM_cons, resultOf, Sem.run_bind, Sem.run_pure, Result.andThen_ok, r1], .cons _ _ _ _ (ha.tmps t v hv) r2⟩
    · cases he
  | .cell c t :: l, vs, he => by
    unfold resultsA at he
    split at he
    · rename_i id off hc
      split at he
      · rename_i v q hv hq
        cases he
        obtain ⟨r, r1, r2⟩ := resultsA_ok hr ha hq
        have := ha.tmps c _ hc
        generalize hg : a.tmps.getD c undef = x at this
        cases this with
        | ptr _ _ lo hl =>
        obtain ⟨v', q1, q2⟩ := ldT_ok hT hr hl hv
        refine ⟨v' :: r, ?_, .cons _ _ _ _ q2 r2⟩
        simp only [List.mapM_cons, resultOf, Sem.run_bind, Sem.run_pure, Result.andThen_ok, hg, asAddr, q1, r1]
      · cases he
    · cases he

theorem results_eq (fn : Func) (a : Act) : results fn a.tmps = (do let vs ← fn.results.mapM (resultOf a); pure (if h : vs.size = 1 then vs[0] else .tuple vs)) := by
  have _ := hT
  unfold results
  congr 1

theorem resultsR_ok {nx : Nat} {h : T AO} {w : World} (hr : HR ρ E.P.P ι nx h w) {tm : T AV} {a : Act} (ha : AR ρ ι tm a nt) {fn : Func} {v : AV} {h' : T AO} {nx' : Nat} (he : resultsR E.P fn tm h nx = .ok ⟨v, h', nx'⟩) :
    h' = h ∧ nx' = nx ∧ ∃ v', (results fn a.tmps).run E.P.P w = .ok v' w ∧ VR ρ ι v v' := by
  unfold resultsR at he
  split at he
  · rename_i l hl
    cases he
    refine ⟨rfl, rfl, ?_⟩
    obtain ⟨r, r1, r2⟩ := resultsA_ok hT hr ha hl
    rw [results_eq hT, Array.mapM_eq_mapM_toList]
    have hrun : ((List.toArray <$> List.mapM (resultOf a) fn.results.toList) : Sem (Array Value)).run E.P.P w = .ok r.toArray w := by
      rw [map_eq_pure_bind]
      simp only [Sem.run_bind, r1, Result.andThen_ok, Sem.run_pure]
    refine ⟨if h : r.toArray.size = 1 then r.toArray[0] else .tuple r.toArray, ?_, ?_⟩
    · simp only [Sem.run_bind, hrun, Result.andThen_ok, Sem.run_pure]
    · cases r2 with
      | nil => exact .tup _ _ .nil
      | cons x l' y r' h1 h2 =>
        cases h2 with
        | nil => exact h1
        | cons x2 l2 y2 r2' h3 h4 =>
          have : ¬ ((y :: y2 :: r2').toArray.size = 1) := by simp
          rw [dif_neg this]
          exact .tup _ _ (.cons _ _ _ _ h1 (.cons _ _ _ _ h3 h4))
  · cases he
end
end Go.Proofs.YtoklobcagaolmaaGreatDoor.SE
end

noncomputable section
namespace Go.Proofs.YtoklobcagaolmaaGreatDoor.SE
variable {ρ : Val}

section
variable {E : Env} (hE : EnvOk E ρ) {m : Nat}
include hE

/-- the deferred calls, one after another, and then the results -/
theorem leaves_ok {fn : Func} {tmps : Array Value} {R : Ending → World → Prop} {h' : T AO} {nx' : Nat} :
    ∀ {df : List ADef} {ds : List Deferred} {ι : Io} {h : T AO} {nx : Nat} {w : World}, HR ρ E.P.P ι nx h w → DefsR ρ ι df ds → runDefers E.dcall df h nx = .ok (h', nx') →
      (∀ ι' w', HR ρ E.P.P ι' nx' h' w' → Nxt ι h w nx ι' h' w' nx' → ∃ v, (results fn tmps).run E.P.P w' = .ok v w' ∧ R (.returned v) w') →
      LeavesInM (W none) m E.P.P fn tmps R ds .returning w
  | _, _, ι, h, nx, w, hr, .nil, he, hk => by
    cases he
    exact hk ι w hr (.refl _ _ _ _)
  | _, _, ι, h, nx, w, hr, .cons (.fn f args) d l r ⟨vs, h1, ⟨fv, cap, h2⟩, h3⟩ hs, he, hk => by
    unfold runDefers at he
    split at he
    · rename_i v h1' nx1 hc
      obtain ⟨c1, c2⟩ := hE.dcall _ _ _ _ _ _ _ hc ι w vs hr h1
      refine ⟨(by intro e; cases e), .inr ⟨W_depth, fv, cap, f, vs.toArray, h2, by rw [h3]; exact c1, fun _ _ => trivial, ?_⟩⟩
      refine CallsDIn.mono (c2 _) ?_
      rintro e u' w' ⟨hu, v', ι', he', hv, hr', hn⟩
      subst hu he'
      show LeavesInM (W none) m E.P.P fn tmps R r (settle .returning) w'
      exact leaves_ok hr' (hs.mono hn.le) he fun ι2 w2 hr2 hn2 => hk ι2 w2 hr2 (hn.trans hn2)
    · cases he
  | _, _, ι, h, nx, w, hr, .cons (.coll id) d l r ⟨lc, h1, h2⟩ hs, he, hk => by
    unfold runDefers at he
    split at he
    · rename_i hg
      obtain ⟨l', k1, k2⟩ := hr.obj _ _ hg
      rw [h1] at k1; cases k1
      obtain ⟨z0, z1⟩ := k2
      have z1 : w.heap[lc.blk]? = some (.deferred (some [])) := z1
      have hW := hr.write hg h1 (.deferred none) (o' := .dfs false) rfl ⟨z0, by rw [setBlk_get, if_pos ⟨rfl, heap_lt z1⟩]; rfl⟩
      refine ⟨(by intro e; cases e), .inl ⟨lc.blk, _, h2, run_takeDeferred z1, ?_⟩⟩
      exact leaves_ok hW.1 (hs.mono hW.2.le) he fun ι2 w2 hr2 hn2 => hk ι2 w2 hr2 (hW.2.trans hn2)
    · cases he
end
end Go.Proofs.YtoklobcagaolmaaGreatDoor.SE
end

noncomputable section
namespace Go.Proofs.YtoklobcagaolmaaGreatDoor.SE
variable {ρ : Val} {ι : Io}

/-! ## a body's temporaries at its start -/
theorem putArgs_get : ∀ (l : List AV) (tm : T AV) (i t : Nat), T.getW (wayOf t) (putArgs l (tm, i)) = if i ≤ t ∧ t < i + l.length then l[t - i]? else T.getW (wayOf t) tm
  | [], tm, i, t => by
    show T.getW (wayOf t) tm = _
    rw [if_neg (by simp)]
  | v :: l, tm, i, t => by
    show T.getW (wayOf t) (putArgs l (T.putW (wayOf i) tm (some v), Nat.add i 1)) = _
    rw [putArgs_get l _ _ t, T.getW_wayOf_putW]
    simp only [Nat.add_eq, List.length_cons]
    by_cases h1 : t = i
    · subst h1
      rw [if_neg (by omega), if_pos rfl, if_pos (by omega)]
      simp
    · by_cases h2 : i + 1 ≤ t ∧ t < i + 1 + l.length
      · rw [if_pos h2, if_pos (by omega)]
        rw [show t - i = (t - (i + 1)) + 1 by omega, List.getElem?_cons_succ]
      · rw [if_neg h2, if_neg h1, if_neg (by omega)]

theorem start_ok {args : List AV} {vs : List Value} (h : VRs ρ ι args vs) (nt : Nat) :
    AR ρ ι (putArgs args (.e, 0)) { tmps := vs.toArray ++ Array.replicate (nt - vs.toArray.size) undef, defers := [] } nt := by
  have hl := h.length
  refine ⟨fun t x hx => ?_, by simp; omega⟩
  rw [putArgs_get] at hx
  by_cases ht : t < args.length
  · rw [if_pos (by omega), Nat.sub_zero] at hx
    obtain ⟨v, h1, h2⟩ := h.get t _ hx
    have : (vs.toArray ++ Array.replicate (nt - vs.toArray.size) undef).getD t undef = v := by
      rw [Array.getD_eq_getD_getElem?, Array.getElem?_append_left (by simp; omega)]
      simp [h1]
    rw [this]
    exact h2
  · rw [if_neg (by omega)] at hx
    rw [T.getW_e] at hx
    cases hx
end Go.Proofs.YtoklobcagaolmaaGreatDoor.SE
end

noncomputable section
namespace Go.Proofs.YtoklobcagaolmaaGreatDoor.SE
variable {ρ : Val}

/-- a context that knows of one number whether it is 0 -/
def Γz (b : Bool) : Ctx := ⟨[], [], [(⟨0, [(16, 1)]⟩, .eq, b)]⟩
def noCall : CallF := fun _ _ _ _ => .no "no call"
def envZ (T : Tab) (b : Bool) : Env := ⟨Γz b, T, noCall, noCall, noCall, 1, false⟩
/-- what stands behind the pieces: whatever the number is, a number of the kind is handed back, and memory is left alone -/
def restZ (T : Tab) (q : Sum) (fn : Func) (c : Code) (b : Bool) (nx : Nat) : Bool :=
  (ex (.seq (rest q.n2 (hd (rest q.n c))) (tl (rest q.n c))) (envZ T b) ⟨SE.T.set .e q.t (.sym q.k ⟨0, [(16, 1)]⟩), [], .e, nx⟩).elim (fun x s => x.elim false
    (noDefs s.df && (finish false (envZ T b) fn s).elim (fun r => r.elim fun v _ _ => opt v.kind? false fun k => Nat.beq (kindNo k) (kindNo q.kr)) (fun _ => false)) (fun _ => false)) (fun _ => false)
def SumOk (T : Tab) (f : FuncId) (q : Sum) : Prop :=
  ∃ fn c, T.fs.get f = some fn ∧ fn.body = some c ∧ isSeq (q.n + 1) c = true ∧ isSeq q.n2 (hd (rest q.n c)) = true ∧ ∀ b nx, restZ T q fn c b nx = true
structure Progs (Γ : Ctx) (ρ : Val) (T : Tab) (exts : List (FuncId × Ext)) : Prop where
  tab : T.ok
  ctx : Γ.ok ρ
  mixed : T.P.follows .mixedOrders = true
  sum : ∀ f q, sumOf T.sums f = some q → SumOk T f q
  body : ∀ f fn c, T.fs.get f = some fn → fn.body = some c → (fn.name == "runtime.NumGoroutine") = false ∧ CodeOk T.P fn.ntmps c
  ext : ∀ f fn, T.fs.get f = some fn → fn.body = none → ∀ (args : List AV) (vs : List Value) (ι : Io) (h : SE.T AO) (nx : Nat) (v : AV) (h' : SE.T AO) (nx' : Nat) (w : World),
    extCall Γ exts f args h nx = .ok ⟨v, h', nx'⟩ → VRs ρ ι args vs → HR ρ T.P ι nx h w → ∃ v' w' ι', (callFunc f vs.toArray).run T.P w = .ok (.value v') w' ∧ VR ρ ι' v v' ∧ HR ρ T.P ι' nx' h' w' ∧ Nxt ι h w nx ι' h' w' nx'
end Go.Proofs.YtoklobcagaolmaaGreatDoor.SE
end

noncomputable section
namespace Go.Proofs.YtoklobcagaolmaaGreatDoor.SE
variable {ρ : Val}

section
variable {Γ : Ctx} {T : Tab} {exts : List (FuncId × Ext)} (hP : Progs Γ ρ T exts)
include hP

theorem run_enter {f : FuncId} {fn : Func} {c : Code} (hf : T.fs.get f = some fn) (hb : fn.body = some c) (vs : Array Value) (w : World) : (callFunc f vs).run T.P w = .ok (.enter f vs) w := by
  have h1 := hP.tab.fs f fn hf
  have h2 := (hP.body f fn c hf hb).1
  have h3 : ¬ fn.name = "runtime.NumGoroutine" := by simpa using h2
  simp [callFunc, program, Sem.run, h1, h3, hb]

theorem enter_of {g : FuncId} (h : hasBody T g = true) (vs : Array Value) (w : World) : (callFunc g vs).run T.P w = .ok (.enter g vs) w := by
  unfold hasBody at h
  cases hf : T.fs.get g with
  | none => rw [hf] at h; cases h
  | some fn =>
    rw [hf] at h
    have h : (opt fn.body false fun _ => true) = true := h
    cases hb : fn.body with
    | none => rw [hb] at h; cases h
    | some c => exact run_enter hP hf hb vs w

omit hP in
/-- a body's run, to its end -/
theorem finish_ok {m : Nat} {E : Env} (hE : EnvOk E ρ) {fn : Func} {B : Base} {s : St} {a : Act} {w : World} (hg : Good E ρ B fn.ntmps s a w) {v : AV} {h' : SE.T AO} {nx' : Nat}
    (hf : finish false E fn s = .ok ⟨v, h', nx'⟩) : LeavesInM (W none) m E.P.P fn a.tmps (After E.P.P ρ B.ι B.h B.w B.nx v h' nx') a.defers .returning w := by
  obtain ⟨ι, hHR, hAR, hDR, hN⟩ := hg.rel
  have key : ∀ h1 nx1, runDefers E.dcall s.df s.h s.nx = .ok (h1, nx1) → resultsR E.P fn s.tm h1 nx1 = .ok ⟨v, h', nx'⟩ → LeavesInM (W none) m E.P.P fn a.tmps (After E.P.P ρ B.ι B.h B.w B.nx v h' nx') a.defers .returning w := by
    intro h1 nx1 hd hres
    refine leaves_ok hE hHR hDR hd ?_
    intro ι' w' hr' hn'
    obtain ⟨e1, e2, v', q1, q2⟩ := resultsR_ok hE.tab hr' (hAR.mono hn'.le) hres
    subst e1 e2
    exact ⟨v', q1, v', ι', rfl, q2, hr', hN.trans hn'⟩
  unfold finish at hf
  split at hf
  · rename_i hd
    exact key s.h s.nx (by rw [hd]; rfl) hf
  · rename_i df hd
    have hf : (match runDefers E.dcall s.df s.h s.nx with | .ok (h', nx') => resultsR E.P fn s.tm h' nx' | .no w => .no w) = R.ok ⟨v, h', nx'⟩ := hf
    split at hf
    · rename_i h1 nx1 hq
      exact key h1 nx1 hq hf
    · cases hf
end
end Go.Proofs.YtoklobcagaolmaaGreatDoor.SE
end

noncomputable section
namespace Go.Proofs.YtoklobcagaolmaaGreatDoor.SE
variable {ρ : Val}

theorem isSeq_eq : ∀ {n : Nat} {c : Code}, isSeq (n + 1) c = true → c = .seq (hd c) (tl c) ∧ isSeq n (tl c) = true
  | _, .seq _ _, h => ⟨rfl, h⟩
theorem isSeq_le : ∀ {n : Nat} {c : Code}, isSeq (n + 1) c = true → isSeq n c = true
  | 0, _, _ => rfl
  | n + 1, c, h => by
    obtain ⟨e, h1⟩ := isSeq_eq h
    rw [e]
    exact isSeq_le (n := n) h1
theorem isSeq_rest : ∀ {n : Nat} {c : Code}, isSeq (n + 1) c = true → isSeq 1 (rest n c) = true
  | 0, _, h => h
  | n + 1, _, h => isSeq_rest (n := n) (isSeq_eq h).2
theorem codeOk_tl {P : Program} {nt : Nat} : ∀ {n : Nat} {c : Code}, isSeq n c = true → CodeOk P nt c → CodeOk P nt (rest n c)
  | 0, c, _, h => h
  | n + 1, c, hs, h => by
    obtain ⟨e, h1⟩ := isSeq_eq hs
    rw [e] at h
    show CodeOk P nt (rest n (tl c))
    exact codeOk_tl (n := n) h1 h.2

theorem ex_seq_ret {E : Env} (hE : EnvOk E ρ) {m : Nat} {B : Base} {nt : Nat} {Q : Exit → Act → World → Prop} {x y : Code} {s s2 : St} {a : Act} {w : World} (hx : CodeOk E.P.P nt x) (hy : CodeOk E.P.P nt y)
    (he : ex (.seq x y) E s = .out .ret s2) (hg : Good E ρ B nt s a w) (_ : E.rnd = false) (hQ : ∀ a' w', Good E ρ B nt s2 a' w' → Q .ret a' w') :
    x.wpIn (W none) m E.P.P (Exit.then (y.wpIn (W none) m E.P.P Q) Q) a w := by
  have he : (ex x E s).then (ex y E) = .out .ret s2 := he
  cases hxx : ex x E s with
  | bad t => rw [hxx] at he; cases he
  | out o s1 =>
    rw [hxx] at he
    have ih := ex_ok hE (ro := none) (m := m) (fun _ => rfl) x s a w hx (by rw [hxx]; trivial) hg
    rw [hxx] at ih
    cases o with
    | exit i => cases he
    | ret =>
      cases he
      refine wpIn_mono ih ?_
      rintro e a1 w1 ⟨e1, hg1⟩
      subst e1
      exact hQ a1 w1 hg1
    | norm =>
      refine wpIn_mono ih ?_
      rintro e a1 w1 ⟨e1, hg1⟩
      subst e1
      have he : ex y E s1 = .out .ret s2 := he
      have ih := ex_ok hE (ro := none) (m := m) (fun _ => rfl) y s1 a1 w1 hy (by rw [he]; trivial) hg1
      rw [he] at ih
      refine wpIn_mono ih ?_
      rintro e a2 w2 ⟨e2, hg2⟩
      subst e2
      exact hQ a2 w2 hg2

theorem exs_ok {E : Env} (hE : EnvOk E ρ) (hr : E.rnd = false) {m : Nat} {B : Base} {nt : Nat} {Q : Exit → Act → World → Prop} : ∀ (n : Nat) (c : Code) (s s' : St) (a : Act) (w : World), isSeq n c = true → CodeOk E.P.P nt c →
    exs (items n c) E s = .out .norm s' → Good E ρ B nt s a w → (∀ a' w', Good E ρ B nt s' a' w' → (rest n c).wpIn (W none) m E.P.P Q a' w') → c.wpIn (W none) m E.P.P Q a w
  | 0, c, s, s', a, w, _, _, he, hg, hk => by
    cases he
    exact hk a w hg
  | n + 1, c, s, s', a, w, hs, hc, he, hg, hk => by
    obtain ⟨e, h1⟩ := isSeq_eq hs
    have he : (ex (hd c) E s).then (exs (items n (tl c)) E) = .out .norm s' := he
    have hk : ∀ a' w', Good E ρ B nt s' a' w' → (rest n (tl c)).wpIn (W none) m E.P.P Q a' w' := hk
    rw [e] at hc
    cases hx : ex (hd c) E s with
    | bad t => rw [hx] at he; cases he
    | out x s1 =>
      rw [hx] at he
      have ih := ex_ok hE (ro := none) (m := m) (fun _ => rfl) (hd c) s a w hc.1 (by rw [hx]; trivial) hg
      rw [hx] at ih
      cases x with
      | ret => cases he
      | exit i => cases he
      | norm =>
        have he : exs (items n (tl c)) E s1 = .out .norm s' := he
        rw [e]
        refine wpIn_seq (wpIn_mono ih ?_)
        rintro e1 a1 w1 ⟨e2, hg1⟩
        subst e2
        exact exs_ok hE hr n (tl c) s1 s' a1 w1 h1 hc.2 he hg1 hk

end Go.Proofs.YtoklobcagaolmaaGreatDoor.SE
end

noncomputable section
namespace Go.Proofs.YtoklobcagaolmaaGreatDoor.SE
variable {ρ : Val}

section
variable {Γ : Ctx} {T : Tab} {exts : List (FuncId × Ext)} (hP : Progs Γ ρ T exts)
include hP

theorem finishD_ok {E : Env} (hE : EnvOk E ρ) {fn : Func} {B : Base} {s : St} {a : Act} {w : World} (hg : Good E ρ B fn.ntmps s a w) {v : AV} {h' : SE.T AO} {nx' : Nat}
    (hf : finish true E fn s = .ok ⟨v, h', nx'⟩) : a.defers = [] ∧ ∃ v', (results fn a.tmps).run E.P.P w = .ok v' w ∧ After E.P.P ρ B.ι B.h B.w B.nx v h' nx' (.returned v') w := by
  have _ := hP
  obtain ⟨ι, hHR, hAR, hDR, hN⟩ := hg.rel
  unfold finish at hf
  split at hf
  · rename_i hd
    obtain ⟨e1, e2, v', q1, q2⟩ := resultsR_ok hE.tab hHR hAR hf
    subst e1 e2
    rw [hd] at hDR
    refine ⟨?_, v', q1, v', ι, rfl, q2, hHR, hN⟩
    generalize a.defers = ds at hDR
    cases hDR
    rfl
  · cases hf

omit hP in
theorem putPs_ok {ι : Io} : ∀ {ps : List Nat} {args : List AV} {vs : List Value} {tm tm1 : SE.T AV} {tmps : Array Value} {nt : Nat}, putPs ps args tm = .ok tm1 → VRs ρ ι args vs → TmR ρ ι tm tmps → nt ≤ tmps.size → (∀ p ∈ ps, p < nt) →
    vs.length = ps.length ∧ TmR ρ ι tm1 ((ps.zip vs).foldl (fun t x => t.setIfInBounds x.1 x.2) tmps) ∧ nt ≤ ((ps.zip vs).foldl (fun t x => t.setIfInBounds x.1 x.2) tmps).size
  | [], [], _, tm, tm1, tmps, nt, he, .nil, ht, hs, _ => by cases he; exact ⟨rfl, ht, hs⟩
  | p :: ps, a :: l, v :: r, tm, tm1, tmps, nt, he, .cons _ _ _ _ h hv, ht, hs, hp => by
    have he : putPs ps l (T.putW (wayOf p) tm (some a)) = .ok tm1 := he
    have hlt : p < tmps.size := Nat.lt_of_lt_of_le (hp p (by simp)) hs
    have ht1 : TmR ρ ι (T.putW (wayOf p) tm (some a)) (tmps.setIfInBounds p v) := by
      intro t x hx
      by_cases e : t = p
      · subst e
        rw [SE.T.getW_wayOf_putW, if_pos rfl] at hx
        cases hx
        simp [hlt]
        exact h
      · rw [SE.T.getW_wayOf_putW, if_neg e] at hx
        have : (tmps.setIfInBounds p v).getD t undef = tmps.getD t undef := by
          simp only [Array.getD_eq_getD_getElem?, Array.getElem?_setIfInBounds]
          rw [if_neg (fun e' => e e'.symm)]
        rw [this]
        exact ht t x hx
    obtain ⟨q1, q2, q3⟩ := putPs_ok (ps := ps) he hv ht1 (nt := nt) (by simpa using hs) (fun q hq => hp q (by simp [hq]))
    exact ⟨by simp [q1], q2, q3⟩
  | [], _ :: _, _, _, _, _, _, he, _, _, _, _ => by cases he
  | _ :: _, [], _, _, _, _, _, he, _, _, _, _ => by cases he

omit hP in
/-- A ROUND -/
theorem roundCall_ok {E : Env} (hE : EnvOk E ρ) (hrnd : E.rnd = true) : RoundOk E.P ρ (roundCall E) := by
  intro y args h nx v h' nx' he ι w vs l hHR hvs hl
  unfold roundCall at he
  split at he
  · rename_i st tm ps asg body dd hg
    cases hst : Nat.beq st 0 with
    | false => rw [hst] at he; cases he
    | true =>
    have := beqN hst
    subst this
    rw [hst] at he
    simp only [bif2_true] at he
    split at he
    · rename_i tm1 hps
      obtain ⟨l', k1, k2⟩ := hHR.obj _ _ hg
      rw [hl] at k1; cases k1
      obtain ⟨o0, tmps, fn, dl, nt, o1, o2, o3, o4, o5, o6, o7⟩ := k2
      obtain ⟨p1, p2, p3⟩ := putPs_ok hps hvs o2 o3 o4
      have o7 : w.heap[l.blk]? = some (.loop { state := .ready, pending := none, fn := fn, tmps := tmps, params := ps.toArray, assign := asg, body := body, defers := dl.blk }) := o7
      have hy := run_yield (P := E.P.P) (args := vs.toArray) o7 (by simp [p1])
      have htm : ((ps.toArray.zip vs.toArray).foldl (fun tmps (t, a) => tmps.setIfInBounds t a) tmps) = (ps.zip vs).foldl (fun t x => t.setIfInBounds x.1 x.2) tmps := by
        rw [← Array.foldl_toList]
        simp
      rw [htm] at hy
      refine ⟨fn, _, asg, body, hy, fun n => roundIn_of_wpIn trivial ?_⟩
      have hg1 : Good E ρ ⟨ι, h, w, nx⟩ nt ⟨tm1, [], h, nx⟩ { tmps := (ps.zip vs).foldl (fun t x => t.setIfInBounds x.1 x.2) tmps, defers := [] } w := ⟨ι, hHR, ⟨p2, p3⟩, .nil, .refl _ _ _ _⟩
      have hro : E.rnd = false → some l.blk = none := fun e => by rw [hrnd] at e; cases e
      split at he
      · rename_i s1 hx
        have ih := ex_ok hE hro (m := n) asg ⟨tm1, [], h, nx⟩ _ w o5 (by rw [hx]; trivial) hg1
        rw [hx] at ih
        refine wpIn_mono ih ?_
        rintro e a1 w1 ⟨e1, hg2⟩
        subst e1
        cases hnd : noDefs s1.df with
        | false => rw [hnd] at he; cases he
        | true =>
        rw [hnd] at he
        simp only [bif2_true] at he
        have hd1 : s1.df = [] := by
          generalize s1.df = ds at hnd
          cases ds with
          | nil => rfl
          | cons _ _ => cases hnd
        split at he
        · rename_i h2 hb1
          obtain ⟨tm2, ps2, asg2, body2, d2, b1, b2⟩ := loopBack_ok hE (ro := some l.blk) hro hb1
          obtain ⟨ι1, r1, r2, r3, r4⟩ := hg2.rel
          obtain ⟨l1, c1, c2⟩ := r1.obj _ _ b1
          have := r4.le _ _ hl
          rw [c1] at this; cases this
          obtain ⟨q0, tmps2, fn2, dl2, nt2, q1, q2, q3, q4, q5, q6, q7⟩ := c2
          have q7 : w1.heap[l.blk]? = some (.loop { state := .ready, pending := none, fn := fn2, tmps := tmps2, params := ps2.toArray, assign := asg2, body := body2, defers := dl2.blk }) := q7
          have hbr := run_beginRound (P := E.P.P) q7 rfl
          refine ⟨_, hbr, ?_⟩
          have hW := r1.write b1 c1 (.loop { state := .busy, pending := none, fn := fn2, tmps := tmps2, params := ps2.toArray, assign := asg2, body := body2, defers := dl2.blk }) (o' := .loop 1 tm2 ps2 asg2 body2 d2) rfl
            ⟨q0, tmps2, fn2, dl2, nt2, q1, q2, q3, q4, q5, q6, by rw [setBlk_get, if_pos ⟨rfl, heap_lt q7⟩]; rfl⟩
          have hum : (unmate s1.h (.loop 0 tm2 ps2 asg2 body2 d2)).set y (.loop 1 tm2 ps2 asg2 body2 d2) = h2 := by rw [b2]; rfl
          rw [hum] at hW
          have hg3 : Good E ρ ⟨ι, h, w, nx⟩ nt ⟨s1.tm, [], h2, s1.nx⟩ { a1 with defers := [] } (setBlk w1 l.blk (Obj.loop { state := .busy, pending := none, fn := fn2, tmps := tmps2, params := ps2.toArray, assign := asg2, body := body2, defers := dl2.blk })) :=
            ⟨ι1, hW.1, ⟨r2.tmps, r2.size⟩, .nil, r4.trans hW.2⟩
          split at he
          · rename_i s2 hx2
            split at he
            · rename_i h3 hb2
              cases he
              -- the round's own frame has no deferred calls
              have ha1 : a1.defers = [] := by
                rw [hd1] at r3
                generalize a1.defers = ds at r3
                cases r3; rfl
              have hae : ({ a1 with defers := [] } : Act) = a1 := by cases a1; simp at ha1; subst ha1; rfl
              rw [hae] at hg3
              have ih2 := ex_ok hE hro (m := n) body ⟨s1.tm, [], h2, s1.nx⟩ _ _ o6 (by rw [hx2]; trivial) hg3
              rw [hx2] at ih2
              refine wpIn_mono ih2 ?_
              rintro e a2 w2 ⟨e2, hg4⟩
              subst e2
              obtain ⟨tm4, ps4, asg4, body4, d4, f1, f2⟩ := loopBack_ok hE (ro := some l.blk) hro hb2
              obtain ⟨ι2, t1, t2, t3, t4⟩ := hg4.rel
              obtain ⟨l2, u1, u2⟩ := t1.obj _ _ f1
              have := t4.le _ _ hl
              rw [u1] at this; cases this
              obtain ⟨z0, tmps4, fn4, dl4, nt4, z1, z2, z3, z4, z5, z6, z7⟩ := u2
              have z7 : w2.heap[l.blk]? = some (.loop { state := .busy, pending := none, fn := fn4, tmps := tmps4, params := ps4.toArray, assign := asg4, body := body4, defers := dl4.blk }) := z7
              have hend := run_endRound (P := E.P.P) none z7
              have hW2 := t1.write f1 u1 (.loop { state := .ready, pending := none, fn := fn4, tmps := tmps4, params := ps4.toArray, assign := asg4, body := body4, defers := dl4.blk }) (o' := .loop 0 tm4 ps4 asg4 body4 d4) rfl
                ⟨z0, tmps4, fn4, dl4, nt4, z1, z2, z3, z4, z5, z6, by rw [setBlk_get, if_pos ⟨rfl, heap_lt z7⟩]; rfl⟩
              have hum2 : (unmate s2.h (.loop 1 tm4 ps4 asg4 body4 d4)).set y (.loop 0 tm4 ps4 asg4 body4 d4) = h' := by rw [f2]; rfl
              rw [hum2] at hW2
              exact ⟨_, _, hend, .bool true, ι2, rfl, .bool true, hW2.1, t4.trans hW2.2⟩
            · cases he
          · cases he
          · cases he
        · cases he
      · cases he
      · cases he
    · cases he
  · cases he

theorem envZ_ok {x : Int} {b : Bool} (hb : decide (x = 0) = b) : EnvOk (envZ T b) (fun _ => x) := by
  refine ⟨hP.tab, ⟨(fun i lo hi h => by simp [envZ, Γz] at h), (fun d l h => by simp [envZ, Γz] at h), ?_⟩, (fun _ _ _ _ _ _ _ h => by cases h), (fun _ _ _ _ _ _ _ h => by cases h), (fun _ _ _ _ _ _ _ h => by cases h), fun g hg vs w => enter_of hP hg vs w, hP.mixed⟩
  intro e q c h
  have h : (e, q, c) = (⟨0, [(16, 1)]⟩, Cmp.eq, b) := by simpa [envZ, Γz] using h
  cases h
  have he : Lin.eval (fun _ => x) ⟨0, [(16, 1)]⟩ = x := by simp [Lin.eval, termsEval]
  rw [he, ← hb]
  rfl

/-- A FUNCTION of which is known what its end hands back -/
theorem callS_ok {E : Env} (hE : EnvOk E ρ) (hEP : E.P = T) (hr : E.rnd = false) {g : FuncId} {args : List AV} {h : SE.T AO} {nx : Nat} {v : AV} {h' : SE.T AO} {nx' : Nat} {q : Sum} {ι : Io} {w : World} {vs : List Value}
    (nrm : callN Γ T exts false E g args h nx = .ok ⟨v, h', nx'⟩ → (∃ v' w' ι', (callFunc g vs.toArray).run T.P w = .ok (.value v') w' ∧ VR ρ ι' v v' ∧ HR ρ T.P ι' nx' h' w' ∧ Nxt ι h w nx ι' h' w' nx') ∨
      ((callFunc g vs.toArray).run T.P w = .ok (.enter g vs.toArray) w ∧ Calls T.P g vs.toArray w (After T.P ρ ι h w nx v h' nx')))
    (hq : SumOk T g q) (he : callS Γ T exts E q g args h nx = .ok ⟨v, h', nx'⟩) (hHR : HR ρ T.P ι nx h w) (hvs : VRs ρ ι args vs) :
    (∃ v' w' ι', (callFunc g vs.toArray).run T.P w = .ok (.value v') w' ∧ VR ρ ι' v v' ∧ HR ρ T.P ι' nx' h' w' ∧ Nxt ι h w nx ι' h' w' nx') ∨
      ((callFunc g vs.toArray).run T.P w = .ok (.enter g vs.toArray) w ∧ Calls T.P g vs.toArray w (After T.P ρ ι h w nx v h' nx')) := by
  subst hEP
  obtain ⟨fn, c, hf, hb, hsq0, hsq2, hz⟩ := hq
  have hsq : isSeq q.n c = true := isSeq_le hsq0
  unfold callS at he
  rw [hf] at he
  simp only [opt_some] at he
  rw [hb] at he
  simp only [opt_some] at he
  cases hx : exs (items q.n c) E ⟨putArgs args (.e, 0), [], h, nx⟩ with
  | bad t => rw [hx] at he; cases he
  | out x s0 =>
  rw [hx] at he
  cases x with
  | ret => exact nrm he
  | exit i => exact nrm he
  | norm =>
  have he : (exs (items q.n2 (hd (rest q.n c))) E s0).elim (fun x s => x.elim
      (bif2 (isUnkOf q.k (SE.T.getW (wayOf q.t) s.tm)) (bif2 (noDefs s.df) (.ok ⟨.unk q.kr, s.h, s.nx⟩) (.no "defers")) (callN Γ E.P exts false E g args h nx))
      (callN Γ E.P exts false E g args h nx) (fun _ => callN Γ E.P exts false E g args h nx)) R.no = .ok ⟨v, h', nx'⟩ := he
  cases hx2 : exs (items q.n2 (hd (rest q.n c))) E s0 with
  | bad t => rw [hx2] at he; cases he
  | out x s =>
  rw [hx2] at he
  cases x with
  | ret => exact nrm he
  | exit i => exact nrm he
  | norm =>
  have he : bif2 (isUnkOf q.k (SE.T.getW (wayOf q.t) s.tm)) (bif2 (noDefs s.df) (.ok ⟨.unk q.kr, s.h, s.nx⟩) (.no "defers")) (callN Γ E.P exts false E g args h nx) = .ok ⟨v, h', nx'⟩ := he
  cases hu : isUnkOf q.k (SE.T.getW (wayOf q.t) s.tm) with
  | false => rw [hu] at he; exact nrm he
  | true =>
  rw [hu] at he
  have he : bif2 (noDefs s.df) (R.ok (VS.mk (.unk q.kr) s.h s.nx)) (.no "defers") = .ok ⟨v, h', nx'⟩ := he
  obtain ⟨hnd, he⟩ := bif2_eq_ok he
  cases he
  refine .inr ⟨run_enter hP hf hb _ w, ?_⟩
  have hc := (hP.body g fn c hf hb).2
  have hg : Good E ρ ⟨ι, h, w, nx⟩ fn.ntmps ⟨putArgs args (.e, 0), [], h, nx⟩ { tmps := vs.toArray ++ Array.replicate (fn.ntmps - vs.toArray.size) undef, defers := [] } w :=
    ⟨ι, hHR, start_ok hvs _, .nil, .refl _ _ _ _⟩
  refine calls_of_W (n := 0) (callsIn_of_wp_marks (hP.tab.fs g fn hf) hb trivial ?_ rfl)
  refine exs_ok hE hr q.n c _ s0 _ w hsq hc hx hg ?_
  intro a0 w0 hg0
  have hco := codeOk_tl hsq hc
  obtain ⟨hre, -⟩ := isSeq_eq (n := 0) (isSeq_rest hsq0)
  rw [hre] at hco
  rw [hre]
  refine wpIn_seq ?_
  refine exs_ok hE hr q.n2 (hd (rest q.n c)) s0 s a0 w0 hsq2 hco.1 hx2 hg0 ?_
  intro a1 w1 hg1
  obtain ⟨ι1, r1, r2, r3, r4⟩ := hg1.rel
  -- the number
  obtain ⟨j, hj, hjk⟩ : ∃ j, SE.T.getW (wayOf q.t) s.tm = some (.unk j) ∧ j = q.k := by
    unfold isUnkOf at hu
    split at hu
    · rename_i j hj
      exact ⟨j, hj, SE.kindNo_inj hu⟩
    · cases hu
  subst hjk
  have hv := r2.tmps q.t _ hj
  generalize hval : a1.tmps.getD q.t undef = val at hv
  cases hv with
  | unk _ x =>
  have hzz := hz (decide (x = 0)) s.nx
  unfold restZ at hzz
  have hd1 : s.df = [] := by
    generalize s.df = ds at hnd
    cases ds with
    | nil => rfl
    | cons _ _ => cases hnd
  have ha1 : a1.defers = [] := by
    rw [hd1] at r3
    generalize a1.defers = ds at r3
    cases r3; rfl
  have hgz : Good (envZ E.P (decide (x = 0))) (fun _ => x) ⟨ι1, .e, w1, s.nx⟩ fn.ntmps ⟨SE.T.set .e q.t (.sym q.k ⟨0, [(16, 1)]⟩), [], .e, s.nx⟩ a1 w1 := by
    refine ⟨ι1, ⟨(fun i o h => by rw [get_e] at h; cases h), (fun i j oi oj li lj _ h => by rw [get_e] at h; cases h), r1.fresh, r1.glob⟩, ⟨?_, r2.size⟩, by rw [ha1]; exact .nil, .refl _ _ _ _⟩
    intro t y hy
    have hy : SE.T.getW (wayOf t) (SE.T.putW (wayOf q.t) .e (some (.sym q.k ⟨0, [(16, 1)]⟩))) = some y := hy
    by_cases e : t = q.t
    · subst e
      rw [SE.T.getW_wayOf_putW, if_pos rfl] at hy
      cases hy
      rw [hval]
      have := VR.sym (ρ := fun _ => x) (ι := ι1) q.k ⟨0, [(16, 1)]⟩
      simpa [Lin.eval, termsEval] using this
    · rw [SE.T.getW_wayOf_putW, if_neg e, SE.T.getW_e] at hy
      cases hy
  have hEZ := envZ_ok hP (x := x) rfl
  cases hy : ex (.seq (rest q.n2 (hd (rest q.n c))) (tl (rest q.n c))) (envZ E.P (decide (x = 0))) ⟨SE.T.set .e q.t (.sym q.k ⟨0, [(16, 1)]⟩), [], .e, s.nx⟩ with
  | bad t => rw [hy] at hzz; cases hzz
  | out xx s2 =>
  rw [hy] at hzz
  cases xx with
  | norm => cases hzz
  | exit i => cases hzz
  | ret =>
  have hzz : (noDefs s2.df && (finish false (envZ E.P (decide (x = 0))) fn s2).elim (fun r => r.elim fun v _ _ => opt v.kind? false fun k => Nat.beq (kindNo k) (kindNo q.kr)) (fun _ => false)) = true := hzz
  rw [Bool.and_eq_true] at hzz
  cases hfin : finish false (envZ E.P (decide (x = 0))) fn s2 with
  | no t => rw [hfin] at hzz; cases hzz.2
  | ok r =>
  obtain ⟨v2, h2, nx2⟩ := r
  rw [hfin] at hzz
  have hkk : (opt v2.kind? false fun k => Nat.beq (kindNo k) (kindNo q.kr)) = true := hzz.2
  refine ex_seq_ret hEZ (codeOk_tl hsq2 hco.1) hco.2 hy hgz rfl ?_
  intro a2 w2 hg2
  have hfo := finish_ok (m := 0) hEZ hg2 hfin
  show LeavesInM (W none) 0 E.P.P fn a2.tmps _ a2.defers .returning w2
  -- nothing is deferred: the results
  have hd2 : s2.df = [] := by
    have := hzz.1
    generalize s2.df = ds at this
    cases ds with
    | nil => rfl
    | cons _ _ => cases this
  obtain ⟨ι2, z1, z2, z3, z4⟩ := hg2.rel
  have ha2 : a2.defers = [] := by
    rw [hd2] at z3
    generalize a2.defers = ds at z3
    cases z3; rfl
  rw [ha2] at hfo ⊢
  obtain ⟨v', hv1, v'', ι3, he3, hv3, hr3, hn3⟩ := hfo
  cases he3
  refine ⟨v', hv1, v', ι1, rfl, ?_, ?_, ?_⟩
  · cases hk : v2.kind? with
    | none => rw [hk] at hkk; cases hkk
    | some k =>
      rw [hk] at hkk
      obtain ⟨n, rfl⟩ := kind?_eq hk hv3
      rw [SE.kindNo_inj (show Nat.beq (kindNo k) (kindNo q.kr) = true from hkk)]
      exact .unk _ _
  · refine ⟨fun i o hi => ?_, r1.apart, r1.fresh, r1.glob⟩
    obtain ⟨l, l1, l2⟩ := r1.obj i o hi
    exact ⟨l, l1, l2.mono (Io.le_refl _) (hn3.frame l.blk l2.blk_lt (fun j oj lj hj => by rw [get_e] at hj; cases hj)).1⟩
  · refine r4.trans ⟨Io.le_refl _, Nat.le_refl _, fun i l e1 e2 => (by rw [e1] at e2; cases e2), hn3.size, ?_, hn3.same⟩
    intro b hb hfree
    exact ⟨(hn3.frame b hb (fun j oj lj hj => by rw [get_e] at hj; cases hj)).1, hfree⟩

/-- A FUNCTION'S RUN -/
theorem callA_ok : ∀ d : Nat, CallOk T ρ (callA d Γ T exts 0) ∧ DCallOk T ρ (callA d Γ T exts 1) ∧ RoundOk T ρ (callA d Γ T exts 2)
  | 0 => ⟨(fun _ _ _ _ _ _ _ he => by cases he), (fun _ _ _ _ _ _ _ he => by cases he), (fun _ _ _ _ _ _ _ he => by cases he)⟩
  | d + 1 => by
    obtain ⟨ih1, ih2, ih3⟩ := callA_ok d
    let E : Env := ⟨Γ, T, callA d Γ T exts 0, callA d Γ T exts 1, callA d Γ T exts 2, 100000, false⟩
    have hE : EnvOk E ρ := ⟨hP.tab, hP.ctx, ih1, ih2, ih3, fun g hg vs w => enter_of hP hg vs w, hP.mixed⟩
    let E' : Env := ⟨Γ, T, callA d Γ T exts 0, callA d Γ T exts 1, callA d Γ T exts 2, 100000, true⟩
    have hE' : EnvOk E' ρ := ⟨hP.tab, hP.ctx, ih1, ih2, ih3, fun g hg vs w => enter_of hP hg vs w, hP.mixed⟩
    have normal : ∀ (g : FuncId) (args : List AV) (h : SE.T AO) (nx : Nat) (v : AV) (h' : SE.T AO) (nx' : Nat) (ι : Io) (w : World) (vs : List Value), HR ρ T.P ι nx h w → VRs ρ ι args vs → callN Γ T exts false E g args h nx = .ok ⟨v, h', nx'⟩ →
        (∃ v' w' ι', (callFunc g vs.toArray).run T.P w = .ok (.value v') w' ∧ VR ρ ι' v v' ∧ HR ρ T.P ι' nx' h' w' ∧ Nxt ι h w nx ι' h' w' nx') ∨
        ((callFunc g vs.toArray).run T.P w = .ok (.enter g vs.toArray) w ∧ Calls T.P g vs.toArray w (After T.P ρ ι h w nx v h' nx')) := by
      intro g args h nx v h' nx' ι w vs hHR hvs he
      unfold callN at he
      obtain ⟨fn, hf, he⟩ := opt_eq_ok he
      cases hb : fn.body with
      | none =>
        rw [hb] at he
        have he : extCall Γ exts g args h nx = .ok ⟨v, h', nx'⟩ := he
        exact .inl (hP.ext g fn hf hb args vs ι h nx v h' nx' w he hvs hHR)
      | some c =>
        rw [hb] at he
        have he : bodyCall false fn c E args h nx = .ok ⟨v, h', nx'⟩ := he
        refine .inr ⟨run_enter hP hf hb _ w, ?_⟩
        have hc := (hP.body g fn c hf hb).2
        have hg : Good E ρ ⟨ι, h, w, nx⟩ fn.ntmps ⟨putArgs args (.e, 0), [], h, nx⟩ { tmps := vs.toArray ++ Array.replicate (fn.ntmps - vs.toArray.size) undef, defers := [] } w :=
          ⟨ι, hHR, start_ok hvs _, .nil, .refl _ _ _ _⟩
        refine calls_of_W (n := 0) (callsIn_of_wp_marks (hP.tab.fs g fn hf) hb trivial ?_ rfl)
        unfold bodyCall at he
        simp only [bif2_false] at he
        have hx := fun hfine => ex_ok hE (ro := none) (m := 0) (fun _ => rfl) c ⟨putArgs args (.e, 0), [], h, nx⟩ _ w hc hfine hg
        cases ho : ex c E ⟨putArgs args (.e, 0), [], h, nx⟩ with
        | bad t => rw [ho] at he; cases he
        | out x s =>
          rw [ho] at he hx
          refine wpIn_mono (hx trivial) ?_
          intro e1 a1 w1 h1
          cases x with
          | norm => obtain ⟨e2, hg1⟩ := h1; subst e2; exact finish_ok hE hg1 he
          | ret => obtain ⟨e2, hg1⟩ := h1; subst e2; exact finish_ok hE hg1 he
          | exit i => cases he
    refine ⟨?_, ?_, ?_⟩
    · intro g args h nx v h' nx' he ι w vs hHR hvs
      have nrm : callN Γ T exts false E g args h nx = .ok ⟨v, h', nx'⟩ → _ := normal g args h nx v h' nx' ι w vs hHR hvs
      have he : (opt (sumOf T.sums g) (callN Γ T exts false E g args h nx) fun q => callS Γ T exts E q g args h nx) = .ok ⟨v, h', nx'⟩ := he
      cases hs : sumOf T.sums g with
      | none => rw [hs] at he; exact nrm he
      | some q =>
        rw [hs] at he
        exact callS_ok hP hE rfl rfl (fun hn => nrm hn) (hP.sum g q hs) he hHR hvs
    · intro g args h nx v h' nx' he ι w vs hHR hvs
      have he : (opt (T.fs.get g) (R.no "no function") fun fn => opt fn.body (bif2 true (R.no "a deferred extern") (extCall Γ exts g args h nx)) fun c => bodyCall true fn c E args h nx) = .ok ⟨v, h', nx'⟩ := he
      obtain ⟨fn, hf, he⟩ := opt_eq_ok he
      cases hb : fn.body with
      | none => rw [hb] at he; cases he
      | some c =>
        rw [hb] at he
        have he : bodyCall true fn c E args h nx = .ok ⟨v, h', nx'⟩ := he
        refine ⟨run_enter hP hf hb _ w, fun n => ?_⟩
        have hc := (hP.body g fn c hf hb).2
        have hg : Good E ρ ⟨ι, h, w, nx⟩ fn.ntmps ⟨putArgs args (.e, 0), [], h, nx⟩ { tmps := vs.toArray ++ Array.replicate (fn.ntmps - vs.toArray.size) undef, defers := [] } w :=
          ⟨ι, hHR, start_ok hvs _, .nil, .refl _ _ _ _⟩
        refine callsDIn_of_wpSIn (hP.tab.fs g fn hf) hb trivial ?_
        intro c₀ cs hmode
        have hcs : recoverD (c₀ :: cs) = none := by simp [recoverD, hmode]
        unfold bodyCall at he
        simp only [bif2_true] at he
        have hx := fun hfine => exD_ok hE hcs (m := n) rfl c ⟨putArgs args (.e, 0), [], h, nx⟩ _ w hc hfine hg
        have hm : ∀ {Q Q' : Exit → Act → List Frame → World → Prop} {c : Code} {a : Act} {cs : List Frame} {w : World}, (∀ e a cs w, Q e a cs w → Q' e a cs w) → c.wpSIn (W none) n T.P Q a cs w → c.wpSIn (W none) n T.P Q' a cs w :=
          fun hq h b k h1 h2 h3 h4 => let ⟨e, a', cs', w', l, q, r⟩ := h b k h1 h2 h3 h4; ⟨e, a', cs', w', l, hq _ _ _ _ q, r⟩
        have hc0 : ({ c₀ with mode := .returning } : Frame) = c₀ := by rw [← hmode]
        have fin : ∀ s a1 w1, Good E ρ ⟨ι, h, w, nx⟩ fn.ntmps s a1 w1 → finish true E fn s = .ok ⟨v, h', nx'⟩ → a1.defers = [] ∧ ∃ u', (c₀ :: cs) = { c₀ with mode := u' } :: cs ∧ ∃ vv, (results fn a1.tmps).run T.P w1 = .ok vv w1 ∧ (u' = .returning ∧ After T.P ρ ι h w nx v h' nx' (.returned vv) w1) := by
          intro s a1 w1 hg1 hf1
          obtain ⟨d1, v', d2, d3⟩ := finishD_ok hP hE hg1 hf1
          exact ⟨d1, .returning, by rw [hc0], v', d2, rfl, d3⟩
        cases ho : exD c E ⟨putArgs args (.e, 0), [], h, nx⟩ with
        | bad t => rw [ho] at he; cases he
        | out x s =>
          rw [ho] at he hx
          refine hm ?_ (hx trivial)
          rintro e1 a1 cs1 w1 ⟨rfl, h1⟩
          cases x with
          | norm => obtain ⟨e2, hg1⟩ := h1; subst e2; exact fin s a1 w1 hg1 he
          | ret => obtain ⟨e2, hg1⟩ := h1; subst e2; exact fin s a1 w1 hg1 he
          | exit i => cases he
    · exact roundCall_ok hE' rfl
end
end Go.Proofs.YtoklobcagaolmaaGreatDoor.SE
end

noncomputable section
namespace Go.Proofs.YtoklobcagaolmaaGreatDoor.SE
variable {ρ : Val} {ι : Io}

theorem land16' (a : Nat) : Nat.land a 65535 = a % 65536 := by
  show a &&& 65535 = _
  exact Nat.and_two_pow_sub_one_eq_mod a 16
theorem shr16' (a : Nat) : Nat.shiftRight a 16 = a / 65536 := by
  show a >>> 16 = _
  rw [Nat.shiftRight_eq_div_pow]

theorem idxByte_ok {Γ : Ctx} (hΓ : Γ.ok ρ) {c : UInt8} : ∀ {n a i : Nat} {l : List UInt8} {v : AV}, idxByte Γ c.toNat n a i = .ok v → Dg ρ n a l →
    v = .int .i64 (if Lib.indexByte l c = -1 then -1 else Int.ofNat i + Lib.indexByte l c)
  | 0, a, i, [], v, h, _ => by cases h; rfl
  | n + 1, a, i, b :: l, v, h, hd => by
    unfold idxByte at h
    rw [land16', shr16'] at h
    have hc : chVal ρ c.toNat = (c.toNat : Int) := by unfold chVal; rw [if_pos c.toNat_lt]
    cases he : chEq Γ (a % 65536) c.toNat with
    | no s => rw [he] at h; cases h
    | ok q =>
      have e := chEq_ok hΓ he
      rw [← hd.1, hc] at e
      rw [he] at h
      cases q with
      | true =>
        cases h
        have hb : b = c := by
          have : (b.toNat : Int) = c.toNat := by simpa using e
          exact UInt8.toNat_inj.1 (by omega)
        subst hb
        have : Lib.indexByte (b :: l) b = 0 := by simp [Lib.indexByte]
        rw [this]; simp
      | false =>
        have hb : (b == c) = false := by
          have : ¬ (b.toNat : Int) = c.toNat := by simpa using e
          rw [beq_eq_false_iff_ne]
          intro e2; subst e2; exact this rfl
        have ih := idxByte_ok hΓ h hd.2
        rw [ih]
        have hge := Lib.indexByte_ge l c
        have e2 : Lib.indexByte (b :: l) c = if Lib.indexByte l c == -1 then -1 else Lib.indexByte l c + 1 := by
          rw [Lib.indexByte, hb]; rfl
        rw [e2]
        by_cases hm : Lib.indexByte l c = -1
        · simp [hm]
        · have h1 : (Lib.indexByte l c == -1) = false := by rw [beq_eq_false_iff_ne]; exact hm
          rw [h1, if_neg hm]
          simp only [Bool.false_eq_true, if_false]
          rw [if_neg (by omega)]
          congr 1
          show ((i + 1 : Nat) : Int) + _ = (i : Int) + _
          omega

theorem cntByte_ok {Γ : Ctx} (hΓ : Γ.ok ρ) {c : UInt8} : ∀ {n a k : Nat} {l : List UInt8} {v : AV}, cntByte Γ c.toNat n a k = .ok v → Dg ρ n a l → v = .int .i64 (Int.ofNat (k + Lib.countByte l c))
  | 0, a, k, [], v, h, _ => by cases h; simp [Lib.countByte]
  | n + 1, a, k, b :: l, v, h, hd => by
    unfold cntByte at h
    rw [land16', shr16'] at h
    have hc : chVal ρ c.toNat = (c.toNat : Int) := by unfold chVal; rw [if_pos c.toNat_lt]
    cases he : chEq Γ (a % 65536) c.toNat with
    | no s => rw [he] at h; cases h
    | ok q =>
      have e := chEq_ok hΓ he
      rw [← hd.1, hc] at e
      rw [he] at h
      cases q with
      | true =>
        have hb : b = c := by
          have : (b.toNat : Int) = c.toNat := by simpa using e
          exact UInt8.toNat_inj.1 (by omega)
        subst hb
        rw [cntByte_ok hΓ h hd.2]
        have : Lib.countByte (b :: l) b = Lib.countByte l b + 1 := by simp [Lib.countByte]
        rw [this]
        congr 2
        show k + 1 + _ = _
        omega
      | false =>
        have hb : ¬ b = c := by
          have : ¬ (b.toNat : Int) = c.toNat := by simpa using e
          intro e2; subst e2; exact this rfl
        rw [cntByte_ok hΓ h hd.2]
        have : Lib.countByte (b :: l) c = Lib.countByte l c := by simp [Lib.countByte, hb]
        rw [this]

/-- what each function without a body stands for -/
def Ext.sem : Ext → Array Value → Sem Value
  | .same => Extern.AbiNoEscape.same
  | .indexByte => Extern.BytealgIndexByte.indexByte
  | .count => Extern.BytealgCount.count
  | .frombits => Extern.MathFloatBits.float64frombits
  | .noZero _ => fun _ => stuck "not so"

theorem extA_ok {Γ : Ctx} (hΓ : Γ.ok ρ) {P : Program} {w : World} : ∀ {e : Ext} {args : List AV} {vs : List Value} {v : AV}, extA Γ e args = .ok v → VRs ρ ι args vs →
    ∃ v', (e.sem vs.toArray).run P w = .ok v' w ∧ VR ρ ι v v' := by
  intro e args vs v h hv
  unfold extA at h
  split at h
  · cases h
    cases hv with
    | cons _ _ x _ p q =>
    cases q
    exact ⟨x, rfl, p⟩
  · rename_i l n c
    obtain ⟨hc, h⟩ := bif2_eq_ok h
    have hc : c < 256 := by simpa [Nat.blt_eq] using hc
    cases hv with
    | cons _ _ x _ p q =>
    cases q with
    | cons _ _ y _ p2 q2 =>
    cases q2
    cases p2
    cases p with
    | str _ _ s hs =>
    have hcc : (UInt8.ofNat c).toNat = c := by simp [UInt8.toNat_ofNat', Nat.mod_eq_of_lt hc]
    have hr := idxByte_ok hΓ (c := UInt8.ofNat c) (by rw [hcc]; exact h) hs
    refine ⟨.int .i64 (Lib.indexByte s.data.toList (UInt8.ofNat c)), Lib.run_indexByteString (P := P) s (Int.ofNat c) w, ?_⟩
    rw [hr]
    have hge := Lib.indexByte_ge s.data.toList (UInt8.ofNat c)
    by_cases hm : Lib.indexByte s.data.toList (UInt8.ofNat c) = -1
    · rw [if_pos hm, hm]; exact .int _ _
    · rw [if_neg hm]
      have : Int.ofNat 0 + Lib.indexByte s.data.toList (UInt8.ofNat c) = Lib.indexByte s.data.toList (UInt8.ofNat c) := by simp
      rw [this]; exact .int _ _
  · rename_i l n c
    obtain ⟨hc, h⟩ := bif2_eq_ok h
    have hc : c < 256 := by simpa [Nat.blt_eq] using hc
    cases hv with
    | cons _ _ x _ p q =>
    cases q with
    | cons _ _ y _ p2 q2 =>
    cases q2
    cases p2
    cases p with
    | str _ _ s hs =>
    have hcc : (UInt8.ofNat c).toNat = c := by simp [UInt8.toNat_ofNat', Nat.mod_eq_of_lt hc]
    have hr := cntByte_ok hΓ (c := UInt8.ofNat c) (by rw [hcc]; exact h) hs
    refine ⟨.int .i64 (Lib.countByte s.data.toList (UInt8.ofNat c)), Lib.run_countString (P := P) s (Int.ofNat c) w, ?_⟩
    rw [hr, Nat.zero_add]
    exact .int _ _
  · rename_i n
    cases h
    cases hv with
    | cons _ _ x _ p q =>
    cases q
    cases p
    exact ⟨_, rfl, .flt _ _⟩
  · cases h
end Go.Proofs.YtoklobcagaolmaaGreatDoor.SE
end

noncomputable section
namespace Go.Proofs.YtoklobcagaolmaaGreatDoor.SE
variable {ρ : Val}

/-! ## tables, out of their entries -/
def unway : List Bool → Nat
  | [] => 0
  | true :: p => 2 * unway p + 1
  | false :: p => 2 * (unway p + 1)
theorem unway_way : ∀ (f i : Nat), i ≤ f → unway (way f i) = i
  | 0, i, h => by
    have : i = 0 := by omega
    subst this; rfl
  | f + 1, i, h => by
    rw [way_succ]
    have e1 : ∀ n, Nat.shiftRight n 1 = n / 2 := fun n => by show n >>> 1 = n / 2; rw [Nat.shiftRight_eq_div_pow]
    have e2 : ∀ n, Nat.land n 1 = n % 2 := fun n => by show n &&& 1 = n % 2; rw [Nat.and_one_is_mod]
    have e3 : ∀ n, Nat.sub (Nat.shiftRight n 1) 1 = n / 2 - 1 := fun n => by rw [e1]; rfl
    rw [e3, e2, e1]
    cases h0 : Nat.beq i 0 with
    | true => have := beqN h0; subst this; rfl
    | false =>
      have hi : i ≠ 0 := fun e => by subst e; cases h0
      cases h1 : Nat.beq (i % 2) 1 with
      | true =>
        have := beqN h1
        show 2 * unway (way f (i / 2)) + 1 = i
        rw [unway_way f (i / 2) (by omega)]
        omega
      | false =>
        have : i % 2 ≠ 1 := fun e => by rw [e] at h1; cases h1
        show 2 * (unway (way f (i / 2 - 1)) + 1) = i
        rw [unway_way f (i / 2 - 1) (by omega)]
        omega
/-- each entry of a tree, with its number -/
def T.All {α : Type} (c : Nat → α → Prop) : T α → (Nat → Nat) → Prop
  | .e, _ => True
  | .n l v r, g => (match v with | none => True | some x => c (g 0) x) ∧ T.All c l (fun k => g (2 * k + 1)) ∧ T.All c r (fun k => g (2 * (k + 1)))
theorem T.All.at {α : Type} {c : Nat → α → Prop} : ∀ (p : List Bool) (t : T α) (g : Nat → Nat) (x : α), T.All c t g → T.getW p t = some x → c (g (unway p)) x
  | [], .n l (some y) r, g, x, h, he => by
    have he : some y = some x := he
    cases he; exact h.1
  | [], .n l none r, g, x, h, he => by cases he
  | [], .e, g, x, h, he => by cases he
  | true :: p, .n l v r, g, x, h, he => T.All.at p l _ x h.2.1 he
  | false :: p, .n l v r, g, x, h, he => T.All.at p r _ x h.2.2 he
  | b :: p, .e, g, x, h, he => by cases he
theorem T.All.get {α : Type} {c : Nat → α → Prop} {t : T α} (h : T.All c t id) {i : Nat} {x : α} (he : t.get i = some x) : c i x := by
  have := T.All.at (wayOf i) t id x h he
  rw [show unway (wayOf i) = i from unway_way i i (Nat.le_refl _)] at this
  exact this
/-- a test of each entry -/
def T.all {α : Type} (c : α → Bool) : T α → Bool
  | .e => true
  | .n l v r => (match v with | none => true | some x => c x) && (T.all c l && T.all c r)
theorem T.all_get {α : Type} {c : α → Bool} : ∀ (p : List Bool) (t : T α) (x : α), T.all c t = true → T.getW p t = some x → c x = true
  | [], .n l (some y) r, x, h, he => by
    have he : some y = some x := he
    cases he
    simp only [T.all, Bool.and_eq_true] at h
    exact h.1
  | [], .n l none r, x, h, he => by cases he
  | [], .e, x, h, he => by cases he
  | true :: p, .n l v r, x, h, he => by
    simp only [T.all, Bool.and_eq_true] at h
    exact T.all_get p l x h.2.1 he
  | false :: p, .n l v r, x, h, he => by
    simp only [T.all, Bool.and_eq_true] at h
    exact T.all_get p r x h.2.2 he
  | b :: p, .e, x, h, he => by cases he

/-- a test of each entry's number -/
def T.allI {α : Type} (c : Nat → Bool) : T α → (Nat → Nat) → Bool
  | .e, _ => true
  | .n l v r, g => (match v with | none => true | some _ => c (g 0)) && (T.allI c l (fun k => g (2 * k + 1)) && T.allI c r (fun k => g (2 * (k + 1))))
theorem T.allI_at {α : Type} {c : Nat → Bool} : ∀ (p : List Bool) (t : T α) (g : Nat → Nat) (x : α), T.allI c t g = true → T.getW p t = some x → c (g (unway p)) = true
  | [], .n l (some y) r, g, x, h, he => by
    simp only [T.allI, Bool.and_eq_true] at h
    exact h.1
  | [], .n l none r, g, x, h, he => by cases he
  | [], .e, g, x, h, he => by cases he
  | true :: p, .n l v r, g, x, h, he => by
    simp only [T.allI, Bool.and_eq_true] at h
    exact T.allI_at p l _ x h.2.1 he
  | false :: p, .n l v r, g, x, h, he => by
    simp only [T.allI, Bool.and_eq_true] at h
    exact T.allI_at p r _ x h.2.2 he
  | b :: p, .e, g, x, h, he => by cases he
theorem T.allI_get {α : Type} {c : Nat → Bool} {t : T α} (h : T.allI c t id = true) {i : Nat} {x : α} (he : t.get i = some x) : c i = true := by
  have := T.allI_at (wayOf i) t id x h he
  rw [show unway (wayOf i) = i from unway_way i i (Nat.le_refl _)] at this
  exact this

/-! ## code: its operands are of the program -/
def opndB (n : Nat) : Operand → Bool
  | .global g => Nat.blt g n
  | _ => true
def operB (n nt : Nat) (o : Oper) : Bool := o.op.operands.toList.all (opndB n) && (match o.dst with | some d => Nat.blt d nt | none => true)
def codeB (n nt : Nat) : Code → Bool
  | .region _ ops _ => ops.toList.all (operB n nt)
  | .seq a b => codeB n nt a && codeB n nt b
  | .cond c a b => opndB n c && (codeB n nt a && codeB n nt b)
  | .block _ b => codeB n nt b
  | .loop b => codeB n nt b
  | .scope b => codeB n nt b
  | .rangeFunc f ps a b => opndB n f && (ps.toList.all (fun p => Nat.blt p nt) && (codeB n nt a && codeB n nt b))
  | _ => true
theorem opndB_ok {P : Program} {o : Operand} (h : opndB P.globals.size o = true) : OperandOk P o := by
  intro g e
  subst e
  simpa [opndB, Nat.blt_eq] using h
theorem operB_ok {P : Program} {nt : Nat} {o : Oper} (h : operB P.globals.size nt o = true) : OperOk P o ∧ ∀ d, o.dst = some d → d < nt := by
  unfold operB at h
  rw [Bool.and_eq_true, List.all_eq_true] at h
  refine ⟨fun x hx => opndB_ok (h.1 x hx), fun d hd => ?_⟩
  have := h.2
  rw [hd] at this
  simpa [Nat.blt_eq] using this
theorem codeB_ok {P : Program} {nt : Nat} : ∀ {c : Code}, codeB P.globals.size nt c = true → CodeOk P nt c
  | .region _ ops _, h => by
    simp only [codeB, List.all_eq_true] at h
    exact fun o ho => operB_ok (h o ho)
  | .seq a b, h => by
    simp only [codeB, Bool.and_eq_true] at h
    exact ⟨codeB_ok h.1, codeB_ok h.2⟩
  | .cond c a b, h => by
    simp only [codeB, Bool.and_eq_true] at h
    exact ⟨opndB_ok h.1, codeB_ok h.2.1, codeB_ok h.2.2⟩
  | .block _ b, h => by simp only [codeB] at h; exact codeB_ok (c := b) h
  | .loop b, h => by simp only [codeB] at h; exact codeB_ok (c := b) h
  | .scope b, h => by simp only [codeB] at h; exact codeB_ok (c := b) h
  | .skip, _ => trivial
  | .rangeFunc f ps a b, h => by
    simp only [codeB, Bool.and_eq_true, List.all_eq_true] at h
    exact ⟨opndB_ok h.1, fun p hp => by simpa [Nat.blt_eq] using h.2.1 p hp, codeB_ok h.2.2.1, codeB_ok h.2.2.2⟩
  | .exit _, _ => trivial
  | .label _, _ => trivial
  | .goto _, _ => trivial
  | .ret, _ => trivial
  | .refuse _, _ => trivial
def funcB (n : Nat) (fn : Func) : Bool :=
  match fn.body with
  | some c => !(fn.name == "runtime.NumGoroutine") && codeB n fn.ntmps c
  | none => true

/-- a function without a body, and what the model has for it -/
def ExtOk (P : Program) (f : FuncId) : Ext → Prop
  | .noZero t => ∃ (fn : Func) (ps : Array TypeId) (ty : TypeId), P.funcs[f]? = some fn ∧ (fn.name == "runtime.NumGoroutine") = false ∧ fn.body.isNone = true ∧ Extern.findNext fn = none ∧
      Extern.find fn = some (Extern.BytealgMakeNoZero.makeNoZero ps #[ty]) ∧ P.underlying ty = some (.slice t)
  | e => ∃ fn, P.funcs[f]? = some fn ∧ (fn.name == "runtime.NumGoroutine") = false ∧ fn.body.isNone = true ∧ Extern.findNext fn = none ∧ Extern.find fn = some e.sem

theorem progs_of {Γ : Ctx} {T : Tab} {exts : List (FuncId × Ext)} (h1 : T.ok) (h2 : Γ.ok ρ) (h3 : T.P.follows .mixedOrders = true) (h4 : SE.T.all (funcB T.P.globals.size) T.fs = true)
    (h5 : ∀ x ∈ exts, ExtOk T.P x.1 x.2)
    (h6 : ∀ f q, sumOf T.sums f = some q → SumOk T f q) : Progs Γ ρ T exts := by
  refine ⟨h1, h2, h3, h6, ?_, ?_⟩
  · intro f fn c hf hb
    have := SE.T.all_get _ _ fn h4 hf
    unfold funcB at this
    rw [hb] at this
    simp only [Bool.and_eq_true, Bool.not_eq_true'] at this
    exact ⟨this.1, codeB_ok this.2⟩
  · intro f fn hf hb args vs ι h nx v h' nx' w he hv hr
    unfold extCall at he
    split at he
    · rename_i g e hfind
      have hg : g = f := by
        have := List.find?_some hfind
        exact Nat.eq_of_beq_eq_true this
      subst hg
      have hx := h5 _ (List.mem_of_find?_eq_some hfind)
      have plain : ∀ {e : Ext}, (∃ fn, T.P.funcs[g]? = some fn ∧ (fn.name == "runtime.NumGoroutine") = false ∧ fn.body.isNone = true ∧ Extern.findNext fn = none ∧ Extern.find fn = some e.sem) →
          (match extA Γ e args with | .ok v => R.ok (VS.mk v h nx) | .no s => .no s) = .ok (VS.mk v h' nx') →
          ∃ v' w' ι', (callFunc g vs.toArray).run T.P w = .ok (.value v') w' ∧ VR ρ ι' v v' ∧ HR ρ T.P ι' nx' h' w' ∧ Nxt ι h w nx ι' h' w' nx' := by
        rintro e ⟨fn', q1, q2, q3, q4, q5⟩ he
        split at he
        · rename_i u hu
          cases he
          obtain ⟨v', r1, r2⟩ := extA_ok (P := T.P) (w := w) h2 hu hv
          refine ⟨v', w, ι, ?_, r2, hr, .refl _ _ _ _⟩
          rw [run_callFunc_extern q1 q2 q3 q4 q5, r1]
          rfl
        · cases he
      split at he
      · rename_i t n
        obtain ⟨fn', ps, ty, q1, q2, q3, q4, q5, q6⟩ := hx
        obtain ⟨hn, he⟩ := bif2_eq_ok he
        cases he
        have hn : n ≤ 1000000 := Nat.le_of_ble_eq_true hn
        cases hv with
        | cons _ _ x _ p q =>
        cases q
        cases p
        obtain ⟨cs, r1, r2, r3⟩ := Lib.run_makeNoZero (P := T.P) w ps ty t q6 n (by omega)
        have hh : (w.drew.drew.alloc (.cells cs t)).heap = w.heap.push (.cells cs t) := rfl
        have hA := hr.alloc (.cells cs t) (.cells t [] false true none) cs.size (w.drew.drew.alloc (.cells cs t)) hh ⟨rfl, rfl, rfl⟩ rfl
          ⟨cs, (0, 0), by rw [hh, push_get, if_pos rfl], rfl, by simp, (fun h => by cases h), fun _ => frozenFree_none _, (fun i a ha => by simp at ha)⟩
        refine ⟨_, _, _, ?_, .slg nx 0 n 1 cs.size ⟨w.heap.size, 0, cs.size⟩ (Io.put_same _ _ _) r2 (by simp), hA.1, hA.2⟩
        rw [run_callFunc_extern q1 q2 q3 q4 q5, show (#[Value.int .i64 (Int.ofNat n)] : Array Value) = #[Value.int .i64 (n : Int)] from rfl, r1]
        rfl
      · rename_i hne
        cases e with
        | noZero t =>
          have : extA Γ (.noZero t) args = .no "extern" := rfl
          rw [this] at he
          cases he
        | same => exact plain hx he
        | indexByte => exact plain hx he
        | count => exact plain hx he
        | frombits => exact plain hx he
    · cases he
end Go.Proofs.YtoklobcagaolmaaGreatDoor.SE
end
