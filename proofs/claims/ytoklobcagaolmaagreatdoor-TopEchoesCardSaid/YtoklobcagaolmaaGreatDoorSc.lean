/- SOUNDNESS, part 3: a region that draws its order. No condition. -/
import Derived.Test.YtoklobcagaolmaaGreatDoorSb
import Derived.Test.YtoklobcagaolmaaGreatDoorEb

noncomputable section
namespace Go.Proofs.YtoklobcagaolmaaGreatDoor.SE
variable {ρ : Val} {ι : Io}

/-! ## trees: two writings at different places -/
theorem T.putW_comm {α : Type} : ∀ (p q : List Bool) (t : T α) (x y : Option α), p ≠ q → T.putW p (T.putW q t x) y = T.putW q (T.putW p t y) x
  | [], [], _, _, _, h => absurd rfl h
  | [], b :: q, .e, x, y, _ => by cases b <;> rfl
  | [], b :: q, .n l v r, x, y, _ => by cases b <;> rfl
  | a :: p, [], .e, x, y, _ => by cases a <;> rfl
  | a :: p, [], .n l v r, x, y, _ => by cases a <;> rfl
  | a :: p, b :: q, .e, x, y, h => by
    cases a <;> cases b
    · have := T.putW_comm p q .e x y (fun e => h (by rw [e]))
      show T.n .e none (T.putW p (T.putW q .e x) y) = T.n .e none (T.putW q (T.putW p .e y) x)
      rw [this]
    · rfl
    · rfl
    · have := T.putW_comm p q .e x y (fun e => h (by rw [e]))
      show T.n (T.putW p (T.putW q .e x) y) none .e = T.n (T.putW q (T.putW p .e y) x) none .e
      rw [this]
  | a :: p, b :: q, .n l v r, x, y, h => by
    cases a <;> cases b
    · have := T.putW_comm p q r x y (fun e => h (by rw [e]))
      show T.n l v (T.putW p (T.putW q r x) y) = T.n l v (T.putW q (T.putW p r y) x)
      rw [this]
    · rfl
    · rfl
    · have := T.putW_comm p q l x y (fun e => h (by rw [e]))
      show T.n (T.putW p (T.putW q l x) y) v r = T.n (T.putW q (T.putW p l y) x) v r
      rw [this]
theorem wayOf_ne {i j : Nat} (h : i ≠ j) : wayOf i ≠ wayOf j := fun e => h (wayOf_inj e)
theorem T.set_set {α : Type} (t : T α) {i j : Nat} (x y : α) (h : i ≠ j) : (t.set i x).set j y = (t.set j y).set i x := T.putW_comm _ _ _ _ _ (wayOf_ne fun e => h e.symm)
theorem T.set_del {α : Type} (t : T α) {i j : Nat} (x : α) (h : i ≠ j) : (t.set i x).del j = (t.del j).set i x := T.putW_comm _ _ _ _ _ (wayOf_ne fun e => h e.symm)
theorem T.del_del {α : Type} (t : T α) {i j : Nat} (h : i ≠ j) : (t.del i).del j = (t.del j).del i := T.putW_comm _ _ _ _ _ (wayOf_ne fun e => h e.symm)

/-! ## a store, and two of them -/
def unm (h : T AO) (m : Option Nat) : T AO := opt m h fun m => h.del m
theorem unm_get (h : T AO) (m : Option Nat) (i : Nat) (hm : m ≠ some i) : (unm h m).get i = h.get i := by
  cases m with
  | none => rfl
  | some m => show (h.del m).get i = _; rw [T.get_del, if_neg (fun e => hm (by rw [e]))]

theorem bif2_eff {b : Bool} {x : Step} {s : String} {v : AV} {h : T AO} {n : Nat} (he : bif2 b x (.no s) = .eff v h n) : b = true ∧ x = .eff v h n := by
  cases b with
  | true => exact ⟨rfl, he⟩
  | false => cases he

theorem stN_shape {h h' : T AO} {id off : Nat} {vs : List AV} (he : stN h id off vs = .ok h') :
    ∃ mate O, mateOf h id = some mate ∧ h' = (unm h mate).set id O ∧ ∀ h2, h2.get id = h.get id → stN h2 id off vs = .ok ((unm h2 mate).set id O) := by
  unfold stN at he
  obtain ⟨o, ho, he⟩ := opt_eq_ok he
  cases o with
  | map es c => cases he
  | loop => cases he
  | dfs => cases he
  | siter => cases he
  | cells elem mem ex wr mate =>
    have he : bif2 wr (opt (splice mem off vs) (.no "store: outside") fun mem' => R.ok ((unm h mate).set id (.cells elem mem' ex true none))) (.no "store: not to be written") = .ok h' := he
    obtain ⟨hw, he⟩ := bif2_eq_ok he
    obtain ⟨mem', hm, he⟩ := opt_eq_ok he
    cases he
    refine ⟨mate, .cells elem mem' ex true none, by unfold mateOf; rw [ho]; rfl, rfl, ?_⟩
    intro h2 h2e
    unfold stN
    rw [h2e, ho]
    show bif2 wr (opt (splice mem off vs) (.no "store: outside") fun mem' => R.ok ((unm h2 mate).set id (.cells elem mem' ex true none))) (.no "store: not to be written") = _
    rw [hw, hm]
    rfl

theorem store_shape {t : TypeId} {x y : Operand} {E : Env} {tm : T AV} {h h' : T AO} {nx nx' : Nat} {v : AV} (he : oStore t x y E tm h nx = .eff v h' nx') :
    v = undefA ∧ nx' = nx ∧ ∃ id off mate O, ev tm x = .ok (.ptr id off) ∧ mateOf h id = some mate ∧ h' = (unm h mate).set id O ∧
      ∀ h2 n2, h2.get id = h.get id → oStore t x y E tm h2 n2 = .eff undefA ((unm h2 mate).set id O) n2 := by
  unfold oStore at he
  obtain ⟨q, hq, he⟩ := elim_eff he
  obtain ⟨p, hp, he⟩ := opt_eff he
  obtain ⟨z, hz, he⟩ := elim_eff he
  obtain ⟨hh, hs, he⟩ := elim_eff he
  cases he
  obtain ⟨id, off⟩ := p
  rw [ptr?_eq hp] at hq
  unfold stT at hs
  obtain ⟨n, hn, hs⟩ := opt_eq_ok hs
  obtain ⟨c, hc, hs⟩ := opt_eq_ok hs
  obtain ⟨hb, hs⟩ := bif2_eq_ok hs
  obtain ⟨mate, O, m1, m2, m3⟩ := stN_shape hs
  refine ⟨rfl, rfl, id, off, mate, O, hq, m1, m2, ?_⟩
  intro h2 n2 h2e
  have e1 : stT E.P h2 t id off z = .ok ((unm h2 mate).set id O) := by
    unfold stT
    rw [hn, hc]
    simp only [opt_some, hb, bif2_true]
    exact m3 h2 h2e
  unfold oStore
  rw [hq, hz]
  show (stT E.P h2 t id off z).elim (fun h' => Step.eff undefA h' n2) .no = _
  rw [e1]
  rfl

theorem apartA_ok {h : T AO} {i j : Nat} (ha : apartA h i j = true) {mi mj : Option Nat} (hi : mateOf h i = some mi) (hj : mateOf h j = some mj) :
    i ≠ j ∧ mi ≠ some j ∧ mj ≠ some i ∧ ∀ m n, mi = some m → mj = some n → m ≠ n := by
  unfold apartA at ha
  rw [hi, hj] at ha
  simp only [opt_some, Bool.and_eq_true, Bool.not_eq_true'] at ha
  obtain ⟨h1, h2, h3, h4⟩ := ha
  have nb : ∀ {a b : Nat}, Nat.beq a b = false → a ≠ b := fun hf e => by subst e; rw [Nat.beq_refl] at hf; cases hf
  refine ⟨nb h1, ?_, ?_, ?_⟩
  · intro e; subst e
    have h2 : (!(Nat.beq j j)) = true := h2
    rw [Nat.beq_refl] at h2; cases h2
  · intro e; subst e
    have h3 : (!(Nat.beq i i)) = true := h3
    rw [Nat.beq_refl] at h3; cases h3
  · intro m n em en e
    subst em en e
    have h4 : (!(Nat.beq m m)) = true := h4
    rw [Nat.beq_refl] at h4; cases h4

theorem unm_set {h : T AO} {m : Option Nat} {i : Nat} (o : AO) (hm : m ≠ some i) : unm (h.set i o) m = (unm h m).set i o := by
  cases m with
  | none => rfl
  | some m => exact T.set_del _ _ (fun e => hm (by rw [e]))
theorem unm_unm {h : T AO} {m n : Option Nat} (hm : ∀ a b, m = some a → n = some b → a ≠ b) : unm (unm h m) n = unm (unm h n) m := by
  cases m with
  | none => rfl
  | some m => cases n with
    | none => rfl
    | some n => exact T.del_del _ (hm m n rfl rfl)

/-- TWO STORES, in either order -/
theorem store_swap {t t' : TypeId} {x y x' y' : Operand} {E : Env} {tm tm' : T AV} {h hi he : T AO} {n ni ne : Nat} {vi ve : AV} {id idoff id' idoff' : Nat}
    (h1 : oStore t x y E tm h n = .eff vi hi ni) (h2 : oStore t' x' y' E tm' h n = .eff ve he ne) (e1 : ev tm x = .ok (.ptr id idoff)) (e2 : ev tm' x' = .ok (.ptr id' idoff')) (ha : apartA h id' id = true) :
    ∃ hh, oStore t x y E tm he ne = .eff undefA hh n ∧ oStore t' x' y' E tm' hi ni = .eff undefA hh n := by
  obtain ⟨_, rfl, a1, b1, mi, Oi, p1, p2, p3, p4⟩ := store_shape h1
  obtain ⟨_, rfl, a2, b2, me, Oe, q1, q2, q3, q4⟩ := store_shape h2
  rw [e1] at p1; cases p1
  rw [e2] at q1; cases q1
  obtain ⟨r1, r2, r3, r4⟩ := apartA_ok ha q2 p2
  refine ⟨(unm he mi).set id Oi, p4 he _ ?_, ?_⟩
  · rw [q3, T.get_set, if_neg (fun e => r1 e.symm), unm_get _ _ _ r2]
  · rw [q4 hi _ (by rw [p3, T.get_set, if_neg r1, unm_get _ _ _ r3])]
    congr 1
    rw [p3, q3, unm_set _ r2, unm_set _ r3, T.set_set _ _ _ (fun e => r1 e.symm), unm_unm (fun a b ha hb => fun e => r4 b a hb ha e.symm)]
end Go.Proofs.YtoklobcagaolmaaGreatDoor.SE
end

noncomputable section
namespace Go.Proofs.YtoklobcagaolmaaGreatDoor.SE
variable {ρ : Val} {ι : Io}

/-! ## new memory ahead of its place -/
theorem flObj_ok {op : Op} {E : Env} {tm : T AV} {id : Nat} {v : AV} {O : AO} (he : flObj op E tm id = .ok (v, O)) :
    ∃ h' n, stepA op E tm .e id = .eff v h' n ∧ h'.get id = some O := by
  unfold flObj at he
  cases hs : stepA op E tm .e id with
  | eff u h' n =>
    rw [hs] at he
    have he : (opt (h'.get id) (.no "float") fun o => R.ok (u, o)) = .ok (v, O) := he
    obtain ⟨o, ho, he⟩ := opt_eq_ok he
    cases he
    exact ⟨h', n, rfl, ho⟩
  | val _ => rw [hs] at he; cases he
  | call _ _ => rw [hs] at he; cases he
  | defer _ _ => rw [hs] at he; cases he
  | round _ _ => rw [hs] at he; cases he
  | no _ => rw [hs] at he; cases he

theorem get_e {α : Type} (i : Nat) : (T.e : T α).get i = none := by unfold T.get; exact T.getW_e _

/-- a row of new cells, under a number that is kept ahead -/
theorem newRow_obj {P : Program} {w : World} (cs : Array Value) (e : TypeId) (mem : List AV) (h1 : VRs ρ ι mem cs.toList) (h2 : ∀ x ∈ cs.toList, x.oneCell' = true) {id : Nat} (hid : ι id = none) :
    ObjR P ρ (ι.put id ⟨w.heap.size, 0, cs.size⟩) { w with heap := w.heap.push (.cells cs e) } ⟨w.heap.size, 0, cs.size⟩ (.cells e mem true true none) := by
  have hl : _ = cs.size := h1.length.trans (Array.length_toList)
  refine ⟨cs, (0, 0), by show (w.heap.push (Obj.cells cs e))[w.heap.size]? = _; simp, rfl, by simp [hl], fun _ => ⟨rfl, hl⟩, fun _ => frozenFree_none _, ?_⟩
  intro i a ha
  obtain ⟨v, q1, q2⟩ := h1.get i a ha
  rw [Array.getElem?_toList] at q1
  exact ⟨v, by simpa using q1, q2.mono (Io.le_put _ hid), h2 v (List.mem_of_getElem? (by rw [Array.getElem?_toList]; exact q1))⟩

section
variable {E : Env} {nx : Nat} {h : T AO} {w : World} {tm : T AV} {a : Act} {nt : Nat} (H : Here E ρ ι nx h w tm a nt)
include H

/-- NEW MEMORY is made -/
theorem float_ok {o : Oper} (ho : OperOk E.P.P o) (hf : isFl o.op = true) {id : Nat} (hid : ι id = none) {v : AV} {O : AO} (he : flObj o.op E tm id = .ok (v, O)) :
    ∃ cs e v', (execOp a.eval o).run E.P.P w = .ok (.value v') { w with heap := w.heap.push (.cells cs e) } ∧ VR ρ (ι.put id ⟨w.heap.size, 0, cs.size⟩) v v' ∧ O.mate? = none ∧
      ObjR E.P.P ρ (ι.put id ⟨w.heap.size, 0, cs.size⟩) { w with heap := w.heap.push (.cells cs e) } ⟨w.heap.size, 0, cs.size⟩ O := by
  have ho1 : ∀ x, x ∈ o.op.operands.toList → OperandOk E.P.P x := ho
  obtain ⟨h', n', hs, hg⟩ := flObj_ok he
  cases hop : o.op <;> rw [hop] at hf hs ho1 <;> first | (cases hf; done) | skip
  case alloc t =>
    have e : execOp a.eval o = (do pure (.value (← Instr.alloc t true (.tuple #[])))) := by unfold execOp; rw [hop]
    rw [e]
    have hs : oAlloc t E tm .e id = .eff v h' n' := hs
    unfold oAlloc at hs
    obtain ⟨z, hz, hs⟩ := opt_eff hs
    cases hs
    rw [T.get_set, if_pos rfl] at hg
    cases hg
    obtain ⟨Z, z1, z2, z3⟩ := run_zero (ρ := ρ) (ι := ι) H.tab w hz
    refine ⟨Z.cells, t, .pointer (some ⟨w.heap.size, 0, none⟩), ?_, ?_, rfl, newRow_obj _ _ _ z2 z3 hid⟩
    · simp [Instr.alloc, z1, newVar, Go.newRow]
    · exact .ptr id 0 ⟨w.heap.size, 0, Z.cells.size⟩ (Io.put_same _ _ _)
  case box t x =>
    have e : execOp a.eval o = (do pure (.value (← Instr.box t (a.eval x)))) := by unfold execOp; rw [hop]
    rw [e]
    have hs : oBox t x E tm .e id = .eff v h' n' := hs
    unfold oBox at hs
    obtain ⟨q, hq, hs⟩ := elim_eff hs
    obtain ⟨c, hc, hs⟩ := opt_eff hs
    cases hs
    rw [T.get_set, if_pos rfl] at hg
    cases hg
    obtain ⟨c1, c2⟩ := cells_ok (H.ev (ho1 x (by simp [Op.operands])) hq) hc
    refine ⟨(a.eval x).cells, t, .pointer (some ⟨w.heap.size, 0, none⟩), ?_, ?_, rfl, newRow_obj _ _ _ c1 c2 hid⟩
    · simp [Instr.box, newVar, Go.newRow]
    · exact .ptr id 0 ⟨w.heap.size, 0, (a.eval x).cells.size⟩ (Io.put_same _ _ _)
  case buildSlice t n parts =>
    have e : execOp a.eval o = (do pure (.value (← Instr.buildSlice t n (parts.map fun (i, x) => (i, a.eval x))))) := by unfold execOp; rw [hop]
    rw [e]
    have hp1 : ∀ p ∈ parts.toList, OperandOk E.P.P p.2 := fun p hp => ho1 p.2 (by simp only [Op.operands, List.toList_toArray]; exact List.mem_map.2 ⟨p, hp, rfl⟩)
    have hs : oBuildSlice t n parts E tm .e id = .eff v h' n' := hs
    unfold oBuildSlice at hs
    split at hs
    · rename_i el hd
      split at hs
      · rename_i l hl
        split at hs
        · rename_i size z hsz hz
          cases hb : (lenIs z size && Nat.ble (Nat.mul n size) 16777216) with
          | false => rw [hb] at hs; cases hs
          | true =>
            rw [hb] at hs
            simp only [cond_true] at hs
            split at hs
            · rename_i c hc
              cases hs
              rw [T.get_set, if_pos rfl] at hg
              cases hg
              rw [Bool.and_eq_true] at hb
              have hlen := lenIs_eq _ _ hb.1
              have hle : n * size ≤ 16777216 := Nat.le_of_ble_eq_true hb.2
              obtain ⟨Z, z1, z2, z3⟩ := run_zero (ρ := ρ) (ι := ι) H.tab w hz
              obtain ⟨q1, q2⟩ := reps_ok z2 z3 hlen n
              have hp := evParts_ok H.rel.glob H.act hp1 hl
              obtain ⟨ds, f1, f2, f3, _⟩ := fill_ok (place := fun i => some (Nat.mul i size, size)) (place' := fun i => some (i * size, size)) (fun i q e => e) hp q1 q2 hc
              refine ⟨ds, el, .slice (some ⟨w.heap.size, 0, none⟩) n n, ?_, .slx id 0 n n ⟨w.heap.size, 0, ds.size⟩ (Io.put_same _ _ _), rfl, newRow_obj _ _ _ f2 f3 hid⟩
              have hno : ¬ (n * size > 2 ^ 24) := by omega
              by_cases h0 : n * size = 0
              · simp only [Instr.buildSlice, Sem.run_bind, run_und H.tab w hd, run_size H.tab w hsz, Result.andThen_ok, if_neg hno, if_pos h0, Sem.run_pure]
                have hr : ((Array.range (n * size)).map fun x => (#[] : Array Value)[x % (#[] : Array Value).size]!) = ((Array.range (n * size)).map (Z.cells[· % Z.cells.size]!)) := by rw [h0]; simp
                rw [hr]
                simp only [] at f1
                rw [show (parts.map fun (x : Nat × Operand) => (x.1, a.eval x.2)).toList = parts.toList.map fun (x : Nat × Operand) => (x.1, a.eval x.2) from Array.toList_map]
                rw [f1]
                simp [Go.newRow]
              · simp only [Instr.buildSlice, Sem.run_bind, run_und H.tab w hd, run_size H.tab w hsz, Result.andThen_ok, if_neg hno, if_neg h0, Sem.run_pure, z1]
                simp only [] at f1
                rw [show (parts.map fun (x : Nat × Operand) => (x.1, a.eval x.2)).toList = parts.toList.map fun (x : Nat × Operand) => (x.1, a.eval x.2) from Array.toList_map]
                rw [f1]
                simp [Go.newRow]
            · cases hs
        · cases hs
      · cases hs
    · cases hs
end

theorem HR.get_of_none {P : Program} {nx : Nat} {h : T AO} {w : World} (hr : HR ρ P ι nx h w) {i : Nat} (hi : ι i = none) : h.get i = none := by
  cases hc : h.get i with
  | none => rfl
  | some o => obtain ⟨l, hl, _⟩ := hr.obj i o hc; rw [hi] at hl; cases hl

/-- a block is laid for a number that is kept ahead; memory does not show it yet -/
theorem HR.push {P : Program} {nx : Nat} {h : T AO} {w : World} (hr : HR ρ P ι nx h w) {id : Nat} (hid : ι id = none) (hlt : id < nx) (O : Obj) (sz : Nat) :
    HR ρ P (ι.put id ⟨w.heap.size, 0, sz⟩) nx h { w with heap := w.heap.push O } := by
  have hle := Io.le_put (ι := ι) (id := id) ⟨w.heap.size, 0, sz⟩ hid
  have hg := hr.get_of_none hid
  refine ⟨?_, ?_, ?_, ?_⟩
  · intro i o hi
    obtain ⟨l, hl, ho⟩ := hr.obj i o hi
    refine ⟨l, hle _ _ hl, ho.mono hle ?_⟩
    show (w.heap.push O)[l.blk]? = _
    rw [push_get, if_neg (by have := ho.blk_lt; omega)]
  · intro i j oi oj li lj hij hi hj hli hlj hb
    have e1 : i ≠ id := fun e => by subst e; rw [hg] at hi; cases hi
    have e2 : j ≠ id := fun e => by subst e; rw [hg] at hj; cases hj
    rw [Io.put_other _ _ _ e1] at hli
    rw [Io.put_other _ _ _ e2] at hlj
    exact hr.apart i j oi oj li lj hij hi hj hli hlj hb
  · intro i l hl
    by_cases e : i = id
    · subst e; exact hlt
    · rw [Io.put_other _ _ _ e] at hl; exact hr.fresh i l hl
  · intro g hg'
    obtain ⟨s, hs⟩ := hr.glob g hg'
    exact ⟨s, hle _ _ hs⟩

/-- and then memory shows it -/
theorem HR.show {P : Program} {nx : Nat} {h : T AO} {w : World} (hr : HR ρ P ι nx h w) {id : Nat} {l : Loc} (hl : ι id = some l) {O : AO} (hO : ObjR P ρ ι w l O) (_ : O.mate? = none)
    (hfree : ∀ i o l', i ≠ id → h.get i = some o → ι i = some l' → l'.blk ≠ l.blk) : HR ρ P ι nx (h.set id O) w := by
  refine ⟨?_, ?_, hr.fresh, hr.glob⟩
  · intro i o hi
    rw [T.get_set] at hi
    by_cases e : i = id
    · subst e; rw [if_pos rfl] at hi; cases hi; exact ⟨l, hl, hO⟩
    · rw [if_neg e] at hi; exact hr.obj i o hi
  · intro i j oi oj li lj hij hi hj hli hlj hb
    rw [T.get_set] at hi hj
    by_cases ei : i = id
    · subst ei
      rw [if_neg (fun e => hij e.symm)] at hj
      rw [hl] at hli; cases hli
      exact absurd hb.symm (hfree j oj lj (fun e => hij e.symm) hj hlj)
    · rw [if_neg ei] at hi
      by_cases ej : j = id
      · subst ej
        rw [hl] at hlj; cases hlj
        exact absurd hb (hfree i oi li ei hi hli)
      · rw [if_neg ej] at hj
        exact hr.apart i j oi oj li lj hij hi hj hli hlj hb
end Go.Proofs.YtoklobcagaolmaaGreatDoor.SE
end

noncomputable section
namespace Go.Proofs.YtoklobcagaolmaaGreatDoor.SE
variable {ρ : Val}

/-! ## the plan of a region that draws its order -/
inductive DK where
  | skip | quiet | fl (id : Nat) (o : AO) | eff

def wantedA (ops : Array Oper) (o : Oper) (tm : T AV) : Option Bool := opt o.guard (some true) fun g => yieldedA ops tm g.1 g.2

/-- the temporaries when some operations are done -/
structure TmAt (ops : Array Oper) (tm0 : T AV) (val : Nat → AV) (D : Nat → Prop) (tm : T AV) : Prop where
  done : ∀ (j : Nat) (o : Oper) (t : Tmp), ops[j]? = some o → o.dst = some t → D j → T.getW (wayOf t) tm = some (val j)
  rest : ∀ (t : Tmp), (∀ (j : Nat) (o : Oper), ops[j]? = some o → o.dst = some t → ¬ D j) → T.getW (wayOf t) tm = T.getW (wayOf t) tm0

/-- may a reading come when these effects are done? -/
def Win (ops : Array Oper) (kind : Nat → DK) (X : Ent) (i : Nat) : Prop :=
  (∀ j, kind j = .eff → Bef ops j i → tb X.S j = true) ∧ ∀ j, kind j = .eff → tb X.S j = true → ¬ Bef ops i j
def Ena (ops : Array Oper) (kind : Nat → DK) (X : Ent) (i : Nat) : Prop := ∀ j, kind j = .eff → Bef ops j i → tb X.S j = true

/-- new memory is laid into the heap -/
inductive InsR (kind : Nat → DK) (ins ins' : Nat) : T AO → T AO → Prop
  | nil (h : T AO) : InsR kind ins ins' h h
  | cons {h h' : T AO} (j id : Nat) (O : AO) (hk : kind j = .fl id O) (h1 : tb ins j = false) (h2 : tb ins' j = true) (hs : InsR kind ins ins' (h.set id O) h') : InsR kind ins ins' h h'

structure Plan (E : Env) (ops : Array Oper) (tm0 : T AV) (nx0 : Nat) (val : Nat → AV) (tm : Nat → T AV) (kind : Nat → DK) (ents : List Ent) (fin : Ent) (hfin : T AO) : Prop where
  tms : ∀ i, TmAt ops tm0 val (fun j => j < i) (tm i)
  skip : ∀ i o, ops[i]? = some o → kind i = .skip → wantedA ops o (tm i) = some false ∧ val i = undefA
  quiet : ∀ i o, ops[i]? = some o → kind i = .quiet → wantedA ops o (tm i) = some true ∧ ∀ X ∈ ents, Win ops kind X i → stepA o.op E (tm i) X.h X.nx = .val (val i)
  float : ∀ i o id O, ops[i]? = some o → kind i = .fl id O → wantedA ops o (tm i) = some true ∧ isFl o.op = true ∧ flObj o.op E (tm i) id = .ok (val i, O)
  flid : ∀ i id O, kind i = .fl id O → id = nx0 + i ∧ O.mate? = none
  eff : ∀ i o, ops[i]? = some o → kind i = .eff → wantedA ops o (tm i) = some true ∧ ∀ X ∈ ents, tb X.S i = false → Ena ops kind X i →
    ∃ X' ∈ ents, (∀ j, tb X'.S j = (tb X.S j || decide (j = i))) ∧ (∀ j, tb X'.ins j = true → tb X.ins j = true ∨ Bef ops j i) ∧ (∀ j, tb X.ins j = true → tb X'.ins j = true) ∧
      ∃ h1, InsR kind X.ins X'.ins X.h h1 ∧ effA o.op E (tm i) h1 X.nx = .ok ⟨val i, X'.h, X'.nx⟩
  full : ∀ X ∈ ents, (∀ i, kind i = .eff → i < ops.size → tb X.S i = true) → X = fin
  last : ∃ ins', (∀ j, tb ins' j = true → j < ops.size) ∧ InsR kind fin.ins ins' fin.h hfin

section
variable {E : Env} (hE : EnvOk E ρ) {B : Base} {nt : Nat} {ops : Array Oper} (hops : OpsOk E.P.P nt ops.toList) {rows : T Nat} (hst : StatOk ops rows)
  {s : St} {val : Nat → AV} {tm : Nat → T AV} {kind : Nat → DK} {ents : List Ent} {fin : Ent} {hfin : T AO} (hP : Plan E ops s.tm s.nx val tm kind ents fin hfin) (hB : B.nx ≤ s.nx)

/-- the blocks of new memory that the heap does not show yet -/
def Fls (P : Program) (kind : Nat → DK) (B : Base) (ρ : Val) (L : Array Bool) (X : Ent) (ι : Io) (w : World) : Prop :=
  ∀ i id O, kind i = .fl id O → id < X.nx ∧ (L.getD i false = false → ι id = none) ∧ (L.getD i false = true → tb X.ins i = false → X.h.get id = none ∧
    ∃ l, ι id = some l ∧ ObjR P ρ ι w l O ∧ Free ι X.h l.blk ∧ B.w.heap.size ≤ l.blk ∧
      ∀ j jd Oj lj, j ≠ i → kind j = .fl jd Oj → L.getD j false = true → tb X.ins j = false → ι jd = some lj → lj.blk ≠ l.blk)

/-- what stands when some operations are listed -/
structure At (E : Env) (ops : Array Oper) (tm0 : T AV) (df : List ADef) (val : Nat → AV) (kind : Nat → DK) (B : Base) (ρ : Val) (nt : Nat) (X : Ent) (L : Array Bool) (a : Act) (w : World) (ι : Io) : Prop where
  effs : ∀ i, kind i = .eff → tb X.S i = L.getD i false
  ins : ∀ i, tb X.ins i = true → L.getD i false = true
  rel : HR ρ E.P.P ι X.nx X.h w
  tmp : ∃ tmL, TmAt ops tm0 val (fun j => L.getD j false = true) tmL ∧ AR ρ ι tmL a nt
  df : DefsR ρ ι df a.defers
  nxt : Nxt B.ι B.h B.w B.nx ι X.h w X.nx
  fls : Fls E.P.P kind B ρ L X ι w

theorem getD_set (L : Array Bool) (i j : Nat) (hi : i < L.size) : (L.setIfInBounds i true).getD j false = (L.getD j false || decide (j = i)) := by
  simp only [Array.getD_eq_getD_getElem?, Array.getElem?_setIfInBounds]
  by_cases h : i = j
  · subst h; simp [hi]
  · rw [if_neg h]
    have : decide (j = i) = false := by simpa using fun e => h e.symm
    rw [this, Bool.or_false]

/-- new memory that stands ahead of an effect is laid into the heap -/
theorem ins_ok {nx : Nat} {w : World} {ι : Io} {L : Array Bool} {ins ins' : Nat} (hL : ∀ j, tb ins' j = true → L.getD j false = true) :
    ∀ {h h' : T AO}, InsR kind ins ins' h h' → (∀ i id O, kind i = .fl id O → O.mate? = none) → HR ρ E.P.P ι nx h w → Nxt B.ι B.h B.w B.nx ι h w nx →
      (∀ i id O, kind i = .fl id O → L.getD i false = true → tb ins i = false → ∃ l, ι id = some l ∧ ObjR E.P.P ρ ι w l O ∧ B.w.heap.size ≤ l.blk ∧ (∀ k o lk, k ≠ id → h.get k = some o → ι k = some lk → lk.blk ≠ l.blk) ∧
        (∀ j jd Oj lj, j ≠ i → kind j = .fl jd Oj → L.getD j false = true → tb ins j = false → ι jd = some lj → lj.blk ≠ l.blk)) →
      HR ρ E.P.P ι nx h' w ∧ Nxt B.ι B.h B.w B.nx ι h' w nx ∧
      (∀ i id O, kind i = .fl id O → L.getD i false = true → tb ins' i = false → tb ins i = false → h.get id = none → (∀ j jd Oj, j ≠ i → kind j = .fl jd Oj → jd ≠ id) →
        h'.get id = none ∧ ∃ l, ι id = some l ∧ ObjR E.P.P ρ ι w l O ∧ Free ι h' l.blk ∧ B.w.heap.size ≤ l.blk ∧
          (∀ j jd Oj lj, j ≠ i → kind j = .fl jd Oj → L.getD j false = true → tb ins j = false → ι jd = some lj → lj.blk ≠ l.blk)) := by
  intro h h' hi
  induction hi with
  | nil h =>
    intro _ hr hn hf
    refine ⟨hr, hn, ?_⟩
    intro i id O hk hLi h1 h2 hg hd
    obtain ⟨l, l1, l2, l3, l4, l5⟩ := hf i id O hk hLi h2
    refine ⟨hg, l, l1, l2, ?_, l3, l5⟩
    intro k o lk hgk hlk
    exact l4 k o lk (fun e => by subst e; rw [hg] at hgk; cases hgk) hgk hlk
  | @cons h h' j jd Oj hk h1 h2 hs ih =>
    intro hm hr hn hf
    have hLj := hL j h2
    obtain ⟨l, l1, l2, l3, l4, l5⟩ := hf j jd Oj hk hLj h1
    have hr' := hr.show l1 l2 (hm j jd Oj hk) l4
    have hn' : Nxt B.ι B.h B.w B.nx ι (h.set jd Oj) w nx := by
      refine ⟨hn.le, hn.nxle, hn.new, hn.size, ?_, hn.same⟩
      intro b hb hfree
      obtain ⟨f1, f2⟩ := hn.frame b hb hfree
      refine ⟨f1, ?_⟩
      intro k o lk hg hlk
      rw [T.get_set] at hg
      by_cases e : k = jd
      · subst e
        rw [l1] at hlk; cases hlk
        omega
      · rw [if_neg e] at hg; exact f2 k o lk hg hlk
    have := ih hm hr' hn' (by
      intro i id O hki hLi hii
      obtain ⟨li, i1, i2, i3, i4, i5⟩ := hf i id O hki hLi hii
      refine ⟨li, i1, i2, i3, ?_, i5⟩
      intro k o lk hne hg hlk
      rw [T.get_set] at hg
      by_cases e : k = jd
      · subst e
        by_cases ej : j = i
        · subst ej
          rw [hk] at hki; cases hki
          exact absurd rfl hne
        · exact i5 j k Oj lk ej hk hLj h1 hlk
      · rw [if_neg e] at hg; exact i4 k o lk hne hg hlk)
    obtain ⟨r1, r2, r3⟩ := this
    refine ⟨r1, r2, ?_⟩
    intro i id O hki hLi hi1 hi2 hg hd
    have hij : j ≠ i := fun e => by subst e; rw [h2] at hi1; cases hi1
    have hne : jd ≠ id := hd j jd Oj hij hk
    exact r3 i id O hki hLi hi1 hi2 (by rw [T.get_set, if_neg (fun e => hne e.symm)]; exact hg) hd
end
end Go.Proofs.YtoklobcagaolmaaGreatDoor.SE
end

noncomputable section
namespace Go.Proofs.YtoklobcagaolmaaGreatDoor.SE
variable {ρ : Val}

section
variable {ops : Array Oper} {rows : T Nat} (hst : StatOk ops rows) {val : Nat → AV} {tm0 : T AV}
include hst

theorem TmAt.put {D : Nat → Prop} {t0 : T AV} (h : TmAt ops tm0 val D t0) {i : Nat} {o : Oper} (ho : ops[i]? = some o) : TmAt ops tm0 val (fun j => D j ∨ j = i) (putA o.dst t0 (val i)) := by
  cases hd : o.dst with
  | none =>
    refine ⟨?_, ?_⟩
    · intro j oj t hj ht hD
      rcases hD with hD | rfl
      · exact h.done j oj t hj ht hD
      · rw [ho] at hj; cases hj; rw [hd] at ht; cases ht
    · intro t hn
      exact h.rest t fun j oj hj ht hD => hn j oj hj ht (.inl hD)
  | some d =>
    refine ⟨?_, ?_⟩
    · intro j oj t hj ht hD
      show T.getW (wayOf t) (T.putW (wayOf d) t0 (some (val i))) = _
      rw [T.getW_wayOf_putW]
      by_cases e : t = d
      · subst e
        rw [if_pos rfl, hst.uniq i j o oj t ho hj hd ht]
      · rw [if_neg e]
        rcases hD with hD | rfl
        · exact h.done j oj t hj ht hD
        · rw [ho] at hj; cases hj; rw [hd] at ht; cases ht; exact absurd rfl e
    · intro t hn
      show T.getW (wayOf t) (T.putW (wayOf d) t0 (some (val i))) = _
      rw [T.getW_wayOf_putW]
      by_cases e : t = d
      · subst e
        exact absurd (.inr rfl) (hn i o ho hd)
      · rw [if_neg e]
        exact h.rest t fun j oj hj ht hD => hn j oj hj ht (.inl hD)

/-- what an operation looks at is as it was in the order of the text -/
theorem TmAt.agree {L : Array Bool} (hc : Closed ops L) {i : Nat} {o : Oper} (ho : ops[i]? = some o) (hi : L.getD i false = false) (hr : ∀ e ∈ o.after, Region.binds .any e = true → L.getD e.on false = true)
    {t1 t2 : T AV} (h1 : TmAt ops tm0 val (fun j => L.getD j false = true) t1) (h2 : TmAt ops tm0 val (fun j => j < i) t2) {t : Tmp} (ht : t ∈ o.looksAt ops) :
    T.getW (wayOf t) t1 = T.getW (wayOf t) t2 := by
  by_cases hex : ∃ (j : Nat) (oj : Oper), ops[j]? = some oj ∧ oj.dst = some t
  · obtain ⟨j, oj, hj, hjt⟩ := hex
    have both : (L.getD j false = true ∧ j < i) ∨ (L.getD j false = false ∧ ¬ j < i) := by
      rcases hst.looks i o t ho ht j oj hj hjt with rfl | hb | hb
      · exact .inr ⟨hi, Nat.lt_irrefl _⟩
      · exact .inl ⟨hb.ready hc (fun o' ho' => by rw [ho] at ho'; cases ho'; exact hr), hb.lt hst.low⟩
      · right
        refine ⟨?_, by have := hb.lt hst.low; omega⟩
        cases hlj : L.getD j false with
        | false => rfl
        | true => have := hc.bef hb hlj; rw [hi] at this; cases this
    rcases both with ⟨a, b⟩ | ⟨a, b⟩
    · rw [h1.done j oj t hj hjt a, h2.done j oj t hj hjt b]
    · have u : ∀ (k : Nat) (ok : Oper), ops[k]? = some ok → ok.dst = some t → k = j := fun k ok hk hkt => hst.uniq k j ok oj t hk hj hkt hjt
      rw [h1.rest t (fun k ok hk hkt hD => by rw [u k ok hk hkt, a] at hD; cases hD), h2.rest t (fun k ok hk hkt hD => by rw [u k ok hk hkt] at hD; exact b hD)]
  · rw [h1.rest t (fun k ok hk hkt _ => hex ⟨k, ok, hk, hkt⟩), h2.rest t (fun k ok hk hkt _ => hex ⟨k, ok, hk, hkt⟩)]
end

theorem TmAt.congr {ops : Array Oper} {tm0 : T AV} {val : Nat → AV} {D D' : Nat → Prop} {t : T AV} (h : TmAt ops tm0 val D t) (hD : ∀ j, D j ↔ D' j) : TmAt ops tm0 val D' t :=
  ⟨fun j o t hj ht hd => h.done j o t hj ht ((hD j).2 hd), fun t hn => h.rest t fun j o hj ht hd => hn j o hj ht ((hD j).1 hd)⟩

theorem stepA_agree {ops : Array Oper} {o : Oper} {t1 t2 : T AV} (h : ∀ t ∈ o.looksAt ops, T.getW (wayOf t) t1 = T.getW (wayOf t) t2) (E : Env) (hp : T AO) (nx : Nat) : stepA o.op E t1 hp nx = stepA o.op E t2 hp nx := by
  refine stepA_congr o.op (fun x hx => ev_congr fun t ht => h t ?_) E hp nx
  subst ht
  exact List.mem_append_left _ (List.mem_filterMap.2 ⟨.tmp t, hx, rfl⟩)
theorem wantedA_agree {ops : Array Oper} {o : Oper} {t1 t2 : T AV} (h : ∀ t ∈ o.looksAt ops, T.getW (wayOf t) t1 = T.getW (wayOf t) t2) : wantedA ops o t1 = wantedA ops o t2 := by
  unfold wantedA
  cases hg : o.guard with
  | none => rfl
  | some g =>
    obtain ⟨j, want⟩ := g
    show yieldedA ops t1 j want = yieldedA ops t2 j want
    unfold yieldedA
    cases ho : ops[j]? with
    | none => rfl
    | some oj =>
      simp only [opt_some]
      cases hd : oj.dst with
      | none => rfl
      | some d =>
        simp only [opt_some]
        rw [h d (by unfold Oper.looksAt; rw [hg]; simp [ho, hd])]
theorem wantedA_ok {ι : Io} {ops : Array Oper} {o : Oper} {t : T AV} {a : Act} {nt : Nat} (ha : AR ρ ι t a nt) {b : Bool} (hb : wantedA ops o t = some b) : Region.wanted o (yielded ops a.tmps) = b := by
  unfold wantedA at hb
  unfold Region.wanted
  cases hg : o.guard with
  | none => rw [hg] at hb; cases hb; rfl
  | some g =>
    obtain ⟨j, want⟩ := g
    rw [hg] at hb
    exact yielded_ok ha ops j want hb

theorem AR.of_get {ι : Io} {t1 t2 : T AV} {a : Act} {nt : Nat} (h : AR ρ ι t1 a nt) (he : ∀ t, T.getW (wayOf t) t1 = T.getW (wayOf t) t2) : AR ρ ι t2 a nt :=
  ⟨fun t x hx => h.tmps t x (by rw [he t]; exact hx), h.size⟩

theorem HR.of_heap {P : Program} {ι : Io} {nx : Nat} {h : T AO} {w w' : World} (hr : HR ρ P ι nx h w) (hw : w'.heap = w.heap) {nx' : Nat} (hn : nx ≤ nx') : HR ρ P ι nx' h w' :=
  ⟨fun id o hg => let ⟨l, hl, ho⟩ := hr.obj id o hg; ⟨l, hl, ho.mono (Io.le_refl ι) (by rw [hw])⟩, hr.apart, fun id l hl => Nat.lt_of_lt_of_le (hr.fresh id l hl) hn, hr.glob⟩
theorem Nxt.of_heap {ι0 ι : Io} {h0 h : T AO} {w0 w w' : World} {n0 nx : Nat} (hr : Nxt ι0 h0 w0 n0 ι h w nx) (hw : w'.heap = w.heap) (hs : w'.os = w.os ∧ w'.output = w.output ∧ w'.tape = w.tape) {nx' : Nat} (hn : nx ≤ nx') : Nxt ι0 h0 w0 n0 ι h w' nx' :=
  ⟨hr.le, Nat.le_trans hr.nxle hn, hr.new, by rw [hw]; exact hr.size, fun b hb hf => by rw [hw]; exact hr.frame b hb hf, hs.1.trans hr.same.1, hs.2.1.trans hr.same.2.1, hs.2.2.trans hr.same.2.2⟩

theorem Nxt.push {ι0 ι : Io} {h0 h : T AO} {w0 w : World} {n0 nx : Nat} (hr : Nxt ι0 h0 w0 n0 ι h w nx) {id : Nat} (hid : ι id = none) (hg : h.get id = none) (hge : n0 ≤ id) (O : Obj) (sz : Nat) :
    Nxt ι0 h0 w0 n0 (ι.put id ⟨w.heap.size, 0, sz⟩) h { w with heap := w.heap.push O } nx := by
  refine ⟨Io.le_trans hr.le (Io.le_put _ hid), hr.nxle, ?_, ?_, ?_, hr.same⟩
  · intro i l hl hn
    by_cases e : i = id
    · subst e; exact hge
    · rw [Io.put_other _ _ _ e] at hl; exact hr.new i l hl hn
  · have := hr.size
    simp; omega
  · intro b hb hf
    obtain ⟨f1, f2⟩ := hr.frame b hb hf
    refine ⟨?_, ?_⟩
    · show (w.heap.push O)[b]? = _
      rw [push_get, if_neg (by have := hr.size; omega)]; exact f1
    · intro k o lk hk hlk
      rw [Io.put_other _ _ _ (fun e => by subst e; rw [hg] at hk; cases hk)] at hlk
      exact f2 k o lk hk hlk
end Go.Proofs.YtoklobcagaolmaaGreatDoor.SE
end

noncomputable section
namespace Go.Proofs.YtoklobcagaolmaaGreatDoor.SE
variable {ρ : Val}

section
variable {E : Env} (hE : EnvOk E ρ) {B : Base} {nt : Nat} {ops : Array Oper} (hops : OpsOk E.P.P nt ops.toList) {rows : T Nat} (hst : StatOk ops rows)
  {s : St} {val : Nat → AV} {tm : Nat → T AV} {kind : Nat → DK} {ents : List Ent} {fin : Ent} {hfin : T AO} (hP : Plan E ops s.tm s.nx val tm kind ents fin hfin) (hB : B.nx ≤ s.nx)

theorem Fls.same {P : Program} {kind : Nat → DK} {L L' : Array Bool} {X : Ent} {ι : Io} {w : World} (h : Fls P kind B ρ L X ι w) (hL : ∀ j id O, kind j = .fl id O → L'.getD j false = L.getD j false) : Fls P kind B ρ L' X ι w := by
  intro i id O hk
  obtain ⟨h1, h2, h3⟩ := h i id O hk
  refine ⟨h1, fun hl => h2 (by rw [← hL i id O hk]; exact hl), fun hl hi => ?_⟩
  obtain ⟨g, l, l1, l2, l3, l4, l5⟩ := h3 (by rw [← hL i id O hk]; exact hl) hi
  exact ⟨g, l, l1, l2, l3, l4, fun j jd Oj lj hne hkj hlj hij => l5 j jd Oj lj hne hkj (by rw [← hL j jd Oj hkj]; exact hlj) hij⟩

include hops hst in
/-- an operation that changes nothing but its own temporary -/
theorem At.put {X : Ent} {L : Array Bool} {a : Act} {w : World} {ι : Io} (h : At E ops s.tm s.df val kind B ρ nt X L a w ι) {i : Nat} {o : Oper} (ho : ops[i]? = some o) (hsz : i < L.size) (hne : kind i ≠ .eff)
    (hnf : ∀ id O, kind i ≠ .fl id O) {v : Value} (hv : VR ρ ι (val i) v) : At E ops s.tm s.df val kind B ρ nt X (L.setIfInBounds i true) (a.put o.dst v) w ι := by
  obtain ⟨tmL, t1, t2⟩ := h.tmp
  have hmem : o ∈ ops.toList := List.mem_of_getElem? (i := i) (by simpa using ho)
  refine ⟨?_, ?_, h.rel, ⟨putA o.dst tmL (val i), (t1.put hst ho).congr ?_, t2.put (hops o hmem).2 hv⟩, (by cases hd : o.dst <;> exact h.df), h.nxt, h.fls.same ?_⟩
  · intro j hj
    rw [getD_set _ _ _ hsz]
    have : j ≠ i := fun e => hne (by rw [← e]; exact hj)
    simp [this, h.effs j hj]
  · intro j hj
    rw [getD_set _ _ _ hsz, h.ins j hj]; rfl
  · intro j
    rw [getD_set _ _ _ hsz]
    simp
  · intro j id O hj
    rw [getD_set _ _ _ hsz]
    have : j ≠ i := fun e => hnf id O (by rw [← e]; exact hj)
    simp [this]

include hE hops hst hP hB in
/-- ONE OPERATION of a region that draws its order -/
theorem draw_step {ro : Option Nat} {m : Nat} {Q : Exit → Act → World → Prop} {K : Act → World → Prop} {X : Ent} (hX : X ∈ ents) {L : Array Bool} {a : Act} {w : World} {ι : Io} (h : At E ops s.tm s.df val kind B ρ nt X L a w ι)
    (hc : Closed ops L) (hsz : L.size = ops.size) {i : Nat} {o : Oper} (ho : ops[i]? = some o) (hi : L.getD i false = false) (hr : ∀ e ∈ o.after, Region.binds .any e = true → L.getD e.on false = true)
    (hK : ∀ X' ∈ ents, ∀ ι' a' w', At E ops s.tm s.df val kind B ρ nt X' (L.setIfInBounds i true) a' w' ι' → K a' w') : wpOpIn (W ro) m E.P.P ops Q i K a w := by
  obtain ⟨tmL, t1, t2⟩ := h.tmp
  have hlt : i < L.size := by rw [hsz]; exact (Array.getElem?_eq_some_iff.1 ho).1
  have hmem : o ∈ ops.toList := List.mem_of_getElem? (i := i) (by simpa using ho)
  obtain ⟨hop, hdst⟩ := hops o hmem
  have hag : ∀ t ∈ o.looksAt ops, T.getW (wayOf t) tmL = T.getW (wayOf t) (tm i) := fun t ht => TmAt.agree hst hc ho hi hr t1 (hP.tms i) ht
  have hw : ∀ {b : Bool}, wantedA ops o (tm i) = some b → Region.wanted o (yielded ops a.tmps) = b := fun hb => wantedA_ok t2 (by rw [wantedA_agree hag]; exact hb)
  have hbef : ∀ j, Bef ops j i → L.getD j false = true := fun j hb => hb.ready hc (fun o' ho' => by rw [ho] at ho'; cases ho'; exact hr)
  have hnaf : ∀ j, Bef ops i j → L.getD j false = false := fun j hb => by
    cases hl : L.getD j false with
    | false => rfl
    | true => have := hc.bef hb hl; rw [hi] at this; cases this
  have hsem : ∀ {s : Step}, stepA o.op E tmL X.h X.nx = s → (∀ g args, s ≠ .defer g args) → (∀ why, s ≠ .no why) → Oper.semAt (W ro).round a.eval o = execOp a.eval o := fun hs h1 h2 => Oper.semAt_eq _ _ _ (not_defer hs h1 h2)
  have hsem' : ∀ {s : Step} {hh : T AO} {nn : Nat} {tt : T AV}, stepA o.op E tt hh nn = s → (∀ g args, s ≠ .defer g args) → (∀ why, s ≠ .no why) → Oper.semAt (W ro).round a.eval o = execOp a.eval o := fun hs h1 h2 => Oper.semAt_eq _ _ _ (not_defer hs h1 h2)
  unfold wpOpIn
  simp only [ho]
  cases hk : kind i with
  | skip =>
    obtain ⟨k1, k2⟩ := hP.skip i o ho hk
    rw [hw k1]
    exact ⟨fun _ _ => trivial, hK X hX ι _ _ (h.put hops hst ho hlt (by rw [hk]; intro e; cases e) (by rw [hk]; intro _ _ e; cases e) (by rw [k2]; exact undef_ok))⟩
  | quiet =>
    obtain ⟨k1, k2⟩ := hP.quiet i o ho hk
    rw [hw k1]
    simp only [if_true]
    refine ⟨fun _ _ => trivial, ?_⟩
    have hwin : Win ops kind X i := by
      refine ⟨fun j hj hb => by rw [h.effs j hj]; exact hbef j hb, fun j hj ht hb => ?_⟩
      rw [h.effs j hj, hnaf j hb] at ht; cases ht
    have hs := k2 X hX hwin
    rw [← stepA_agree hag] at hs
    have H : Here E ρ ι X.nx X.h w tmL a nt := ⟨hE.tab, hE.ctx, h.rel, t2⟩
    have hso := step_ok H (o := o) hop
    rw [hs] at hso
    obtain ⟨v', r1, r2⟩ := hso
    rw [hsem' hs (by simp) (by simp), r1]
    exact hK X hX ι _ _ (h.put hops hst ho hlt (by rw [hk]; intro e; cases e) (by rw [hk]; intro _ _ e; cases e) r2)
  | fl id O =>
    obtain ⟨k1, k2, k3⟩ := hP.float i o id O ho hk
    obtain ⟨d1, d2⟩ := hP.flid i id O hk
    rw [hw k1]
    simp only [if_true]
    refine ⟨fun _ _ => trivial, ?_⟩
    obtain ⟨f1, f2, _⟩ := h.fls i id O hk
    have hid := f2 hi
    have H : Here E ρ ι X.nx X.h w tmL a nt := ⟨hE.tab, hE.ctx, h.rel, t2⟩
    have hfo : flObj o.op E tmL id = .ok (val i, O) := by
      rw [← k3]; unfold flObj; rw [stepA_agree hag]
    obtain ⟨cs, e, v', r1, r2, r3, r4⟩ := float_ok H hop k2 hid hfo
    have hnd : ∀ c, o.op ≠ .defer c := by
      intro c hc
      unfold flObj at hfo
      cases hs0 : stepA o.op E tmL .e id with
      | defer g args => rw [hs0] at hfo; cases hfo
      | no why => rw [hs0] at hfo; cases hfo
      | val v => rw [hs0] at hfo; cases hfo
      | call g args => rw [hs0] at hfo; cases hfo
      | round g args => rw [hs0] at hfo; cases hfo
      | eff v h' nx' => exact not_defer hs0 (by simp) (by simp) c hc
    rw [Oper.semAt_eq _ _ _ hnd, r1]
    have hg := h.rel.get_of_none hid
    have hle := Io.le_put (ι := ι) (id := id) ⟨w.heap.size, 0, cs.size⟩ hid
    have hold : ∀ b, b < w.heap.size → (w.heap.push (Obj.cells cs e))[b]? = w.heap[b]? := fun b hb => by rw [push_get, if_neg (by omega)]
    refine hK X hX (ι.put id ⟨w.heap.size, 0, cs.size⟩) _ _ ⟨?_, ?_, h.rel.push hid f1 _ _, ⟨putA o.dst tmL (val i), (t1.put hst ho).congr ?_, (t2.mono hle).put hdst r2⟩, ?_, h.nxt.push hid hg (by rw [d1]; omega) _ _, ?_⟩
    · intro j hj
      rw [getD_set _ _ _ hlt]
      have : j ≠ i := fun e' => by subst e'; rw [hk] at hj; cases hj
      simp [this, h.effs j hj]
    · intro j hj
      rw [getD_set _ _ _ hlt, h.ins j hj]; rfl
    · intro j
      rw [getD_set _ _ _ hlt]
      simp
    · cases hd : o.dst <;> exact h.df.mono hle
    · intro j jd Oj hkj
      obtain ⟨g1, g2, g3⟩ := h.fls j jd Oj hkj
      refine ⟨g1, ?_, ?_⟩
      · intro hl
        rw [getD_set _ _ _ hlt] at hl
        have hne : j ≠ i := fun e' => by subst e'; simp at hl
        have hl' : L.getD j false = false := by simpa [hne] using hl
        rw [Io.put_other _ _ _ (by rw [d1, (hP.flid j jd Oj hkj).1]; omega)]
        exact g2 hl'
      · intro hl hins
        by_cases e' : j = i
        · subst e'
          rw [hk] at hkj; cases hkj
          refine ⟨hg, ⟨w.heap.size, 0, cs.size⟩, Io.put_same _ _ _, r4, ?_, h.nxt.size, ?_⟩
          · intro k ok lk hgk hlk
            rw [Io.put_other _ _ _ (fun e2 => by subst e2; rw [hg] at hgk; cases hgk)] at hlk
            obtain ⟨lk', q1, q2⟩ := h.rel.obj k ok hgk
            rw [hlk] at q1; cases q1
            have := q2.blk_lt
            show lk.blk ≠ w.heap.size
            omega
          · intro m md Om lm hne hkm hlm hinm hlm2
            rw [getD_set _ _ _ hlt] at hlm
            have hlm' : L.getD m false = true := by simpa [hne] using hlm
            rw [Io.put_other _ _ _ (by rw [d1, (hP.flid m md Om hkm).1]; omega)] at hlm2
            obtain ⟨_, lm', q1, q2, _⟩ := (h.fls m md Om hkm).2.2 hlm' hinm
            rw [hlm2] at q1; cases q1
            have := q2.blk_lt
            show lm.blk ≠ w.heap.size
            omega
        · rw [getD_set _ _ _ hlt] at hl
          have hl' : L.getD j false = true := by simpa [e'] using hl
          obtain ⟨p1, l, p2, p3, p4, p5, p6⟩ := g3 hl' hins
          refine ⟨p1, l, hle _ _ p2, p3.mono hle (hold _ p3.blk_lt), ?_, p5, ?_⟩
          · intro k ok lk hgk hlk
            rw [Io.put_other _ _ _ (fun e2 => by subst e2; rw [hg] at hgk; cases hgk)] at hlk
            exact p4 k ok lk hgk hlk
          · intro m md Om lm hne hkm hlm hinm hlm2
            by_cases e2 : m = i
            · subst e2
              rw [hk] at hkm; cases hkm
              rw [Io.put_same] at hlm2; cases hlm2
              have := p3.blk_lt
              show w.heap.size ≠ l.blk
              omega
            · rw [getD_set _ _ _ hlt] at hlm
              have hlm' : L.getD m false = true := by simpa [e2] using hlm
              rw [Io.put_other _ _ _ (by rw [d1, (hP.flid m md Om hkm).1]; omega)] at hlm2
              exact p6 m md Om lm hne hkm hlm' hinm hlm2
  | eff =>
    obtain ⟨k1, k2⟩ := hP.eff i o ho hk
    rw [hw k1]
    simp only [if_true]
    refine ⟨fun _ _ => trivial, ?_⟩
    have hen : Ena ops kind X i := fun j hj hb => by rw [h.effs j hj]; exact hbef j hb
    obtain ⟨X', hX', s1, s2, s3, h1, s4, s5⟩ := k2 X hX (by rw [h.effs i hk]; exact hi) hen
    have hLi : ∀ j, tb X'.ins j = true → L.getD j false = true := fun j hj => by
      rcases s2 j hj with h' | h'
      · exact h.ins j h'
      · exact hbef j h'
    obtain ⟨r1, r2, r3⟩ := ins_ok (E := E) (B := B) (ρ := ρ) hLi s4 (fun j id O hj => (hP.flid j id O hj).2) h.rel h.nxt (by
      intro j id O hj hlj hij
      obtain ⟨q0, l, q1, q2, q3, q4, q5⟩ := (h.fls j id O hj).2.2 hlj hij
      exact ⟨l, q1, q2, q4, fun k ok lk _ hgk hlk => q3 k ok lk hgk hlk, q5⟩)
    -- behind the effect
    have after : ∀ ι' a' w', HR ρ E.P.P ι' X'.nx X'.h w' → Nxt ι h1 w X.nx ι' X'.h w' X'.nx → AR ρ ι' (putA o.dst tmL (val i)) a' nt → a'.defers = a.defers →
        At E ops s.tm s.df val kind B ρ nt X' (L.setIfInBounds i true) a' w' ι' := by
      intro ι' a' w' b1 b2 b3 b4
      refine ⟨?_, ?_, b1, ⟨_, (t1.put hst ho).congr ?_, b3⟩, by rw [b4]; exact h.df.mono b2.le, r2.trans b2, ?_⟩
      · intro j hj
        rw [getD_set _ _ _ hlt, s1 j, h.effs j hj]
      · intro j hj
        rw [getD_set _ _ _ hlt, hLi j hj]; rfl
      · intro j
        rw [getD_set _ _ _ hlt]
        simp
      · intro j jd Oj hkj
        have hji : j ≠ i := fun e' => by subst e'; rw [hk] at hkj; cases hkj
        obtain ⟨g1, g2, g3⟩ := h.fls j jd Oj hkj
        have hL' : (L.setIfInBounds i true).getD j false = L.getD j false := by rw [getD_set _ _ _ hlt]; simp [hji]
        rw [hL']
        refine ⟨Nat.lt_of_lt_of_le g1 b2.nxle, ?_, ?_⟩
        · intro hl
          cases hc' : ι' jd with
          | none => rfl
          | some l => have := b2.new jd l hc' (g2 hl); omega
        · intro hl hins'
          have hins : tb X.ins j = false := by
            cases hb : tb X.ins j with
            | false => rfl
            | true => rw [s3 j hb] at hins'; cases hins'
          obtain ⟨p0, _⟩ := g3 hl hins
          obtain ⟨p1, l, p2, p3, p4, p5, p6⟩ := r3 j jd Oj hkj hl hins' hins p0 (fun m md Om hne hkm => by rw [(hP.flid j jd Oj hkj).1, (hP.flid m md Om hkm).1]; omega)
          obtain ⟨fr1, fr2⟩ := b2.frame l.blk p3.blk_lt p4
          have hl' := b2.le _ _ p2
          refine ⟨?_, l, hl', p3.mono b2.le fr1, fr2, p5, ?_⟩
          · cases hg : X'.h.get jd with
            | none => rfl
            | some oo => exact absurd rfl (fr2 jd oo l hg hl')
          · intro m md Om lm hne hkm hlm hinm hlm2
            have hmi : m ≠ i := fun e' => by subst e'; rw [hk] at hkm; cases hkm
            have hlm' : L.getD m false = true := by rw [getD_set _ _ _ hlt] at hlm; simpa [hmi] using hlm
            have hinm' : tb X.ins m = false := by
              cases hb : tb X.ins m with
              | false => rfl
              | true => rw [s3 m hb] at hinm; cases hinm
            obtain ⟨_, lm0, q1, _⟩ := (h.fls m md Om hkm).2.2 hlm' hinm'
            have := b2.le _ _ q1
            rw [hlm2] at this; cases this
            exact p6 m md Om lm hne hkm hlm' hinm' q1
    have H : Here E ρ ι X.nx h1 w tmL a nt := ⟨hE.tab, hE.ctx, r1, t2⟩
    have hso := step_ok H (o := o) hop
    have s5' : effA o.op E tmL h1 X.nx = .ok ⟨val i, X'.h, X'.nx⟩ := by
      rw [← s5]; unfold effA; rw [stepA_agree hag]
    unfold effA at s5'
    cases hs : stepA o.op E tmL h1 X.nx with
    | val v => rw [hs] at s5'; cases s5'
    | no t => rw [hs] at s5'; cases s5'
    | defer g args => rw [hs] at s5'; cases s5'
    | round g args => rw [hs] at s5'; cases s5'
    | eff v h' nx' =>
      rw [hs] at s5' hso
      have s5' : R.ok (VS.mk v h' nx') = .ok ⟨val i, X'.h, X'.nx⟩ := s5'
      injection s5' with s5'
      injection s5' with u1 u2 u3
      subst u1 u2 u3
      obtain ⟨w', ι', b1, b2, b3⟩ := hso
      rw [hsem' hs (by simp) (by simp)]
      rcases b1 with ⟨v', b1, hv⟩ | ⟨b1, hv⟩
      · rw [b1]
        exact hK X' hX' ι' _ _ (after ι' _ _ b2 b3 ((t2.mono b3.le).put hdst hv) (by cases hd : o.dst <;> rfl))
      · rw [b1]
        exact hK X' hX' ι' _ _ (after ι' _ _ b2 b3 ((t2.mono b3.le).put hdst (by rw [hv]; exact undef_ok)) (by cases hd : o.dst <;> rfl))
    | call g args =>
      rw [hs] at s5' hso
      have s5' : E.call g args h1 X.nx = .ok ⟨val i, X'.h, X'.nx⟩ := s5'
      obtain ⟨vs, hvs, b1⟩ := hso
      rw [hsem' hs (by simp) (by simp), b1]
      rcases hE.call g args h1 X.nx _ _ _ s5' ι w vs r1 hvs with ⟨v', w', ι', c1, c2, c3, c4⟩ | ⟨c1, c2⟩
      · rw [c1]
        exact hK X' hX' ι' _ _ (after ι' _ _ c3 c4 ((t2.mono c4.le).put hdst c2) (by cases hd : o.dst <;> rfl))
      · rw [c1]
        refine ⟨W_depth, CallsIn.mono (callsIn_W c2) ?_⟩
        rintro e w'' ⟨v', ι', e1, e2, e3, e4⟩
        subst e1
        exact hK X' hX' ι' _ _ (after ι' _ _ e3 e4 ((t2.mono e4.le).put hdst e2) (by cases hd : o.dst <;> rfl))
end
end Go.Proofs.YtoklobcagaolmaaGreatDoor.SE
end

noncomputable section
namespace Go.Proofs.YtoklobcagaolmaaGreatDoor.SE
variable {ρ : Val}

/-! ## the whole of a region that draws its order, by its plan -/
def unl (ops : Array Oper) (L : Array Bool) : Nat := (List.range ops.size).countP fun i => !L.getD i false
theorem countP_lt {l : List Nat} {p q : Nat → Bool} (h : ∀ x, p x = true → q x = true) {x : Nat} (hx : x ∈ l) (hq : q x = true) (hp : p x = false) : l.countP p < l.countP q := by
  induction l with
  | nil => cases hx
  | cons y l ih =>
    have mono : ∀ l : List Nat, l.countP p ≤ l.countP q := fun l => List.countP_mono_left fun x _ hx => h x hx
    rcases List.mem_cons.1 hx with rfl | hx
    · rw [List.countP_cons_of_neg (by rw [hp]; decide), List.countP_cons_of_pos hq]
      have := mono l
      omega
    · have := ih hx
      simp only [List.countP_cons]
      by_cases hpy : p y = true
      · rw [hpy, h y hpy]; simpa using this
      · have hpy' : p y = false := by simpa using hpy
        rw [hpy']
        simp only [Bool.false_eq_true, if_false]
        split <;> omega

section
variable {E : Env} (hE : EnvOk E ρ) {B : Base} {nt : Nat} {ops : Array Oper} (hops : OpsOk E.P.P nt ops.toList) {rows : T Nat} (hst : StatOk ops rows)
  {s : St} {val : Nat → AV} {tm : Nat → T AV} {kind : Nat → DK} {ents : List Ent} {fin : Ent} {hfin : T AO} (hP : Plan E ops s.tm s.nx val tm kind ents fin hfin) (hB : B.nx ≤ s.nx)

include hst in
theorem ready_all {L : Array Bool} (hsz : L.size = ops.size) (h : Region.ready .any ops L = []) : ∀ n i, i < n → i < ops.size → L.getD i false = true := by
  intro n
  induction n with
  | zero => intro i hi; omega
  | succ n ih =>
    intro i hi hs
    cases hl : L.getD i false with
    | true => rfl
    | false =>
      have hm : i ∈ Region.ready .any ops L := by
        rw [mem_ready]
        refine ⟨?_, ops[i], Array.getElem?_eq_getElem hs, fun e he hb => ?_⟩
        · rw [Array.getD_eq_getD_getElem?, Array.getElem?_eq_getElem (by omega)] at hl ⊢
          exact hl
        · have := hst.low i _ (Array.getElem?_eq_getElem hs) e he hb
          exact ih _ (by omega) (by omega)
      rw [h] at hm; cases hm

include hst hP in
theorem draw_done {Q : Exit → Act → World → Prop} (hQ : ∀ a w, Good E ρ B nt ⟨tm ops.size, s.df, hfin, fin.nx⟩ a w → Q .normal a w) {X : Ent} (hX : X ∈ ents) {L : Array Bool} {a : Act} {w : World} {ι : Io}
    (h : At E ops s.tm s.df val kind B ρ nt X L a w ι) (hsz : L.size = ops.size) (hr : Region.ready .any ops L = []) : Q .normal a w := by
  have hall : ∀ i, i < ops.size → L.getD i false = true := fun i hi => ready_all hst hsz hr (i + 1) i (by omega) hi
  have hfx : X = fin := hP.full X hX fun i hk hi => by rw [h.effs i hk]; exact hall i hi
  subst hfx
  obtain ⟨tmL, t1, t2⟩ := h.tmp
  obtain ⟨ins', l1, l2⟩ := hP.last
  obtain ⟨r1, r2, _⟩ := ins_ok (E := E) (B := B) (ρ := ρ) (L := L) (fun j hj => hall j (l1 j hj)) l2 (fun j id O hj => (hP.flid j id O hj).2) h.rel h.nxt (by
    intro j id O hj hlj hij
    obtain ⟨q0, l, q1, q2, q3, q4, q5⟩ := (h.fls j id O hj).2.2 hlj hij
    exact ⟨l, q1, q2, q4, fun k ok lk _ hgk hlk => q3 k ok lk hgk hlk, q5⟩)
  refine hQ a w ⟨ι, r1, t2.of_get ?_, h.df, r2⟩
  intro t
  have t3 := hP.tms ops.size
  by_cases hex : ∃ (j : Nat) (oj : Oper), ops[j]? = some oj ∧ oj.dst = some t
  · obtain ⟨j, oj, hj, hjt⟩ := hex
    have hlt := (Array.getElem?_eq_some_iff.1 hj).1
    rw [t1.done j oj t hj hjt (hall j hlt), t3.done j oj t hj hjt hlt]
  · rw [t1.rest t (fun k ok hk hkt _ => hex ⟨k, ok, hk, hkt⟩), t3.rest t (fun k ok hk hkt _ => hex ⟨k, ok, hk, hkt⟩)]

include hE hops hst hP hB in
theorem draw_any {ro : Option Nat} {m : Nat} {Q : Exit → Act → World → Prop} (hQ : ∀ a w, Good E ρ B nt ⟨tm ops.size, s.df, hfin, fin.nx⟩ a w → Q .normal a w) : ∀ (fuel : Nat) (L : Array Bool) (X : Ent) (a : Act) (w : World) (ι : Io),
    X ∈ ents → At E ops s.tm s.df val kind B ρ nt X L a w ι → Closed ops L → L.size = ops.size → unl ops L ≤ fuel → wpAnyIn (W ro) m E.P.P .any ops Q fuel L a w
  | 0, L, X, a, w, ι, hX, h, hc, hsz, hu => by
    have hu0 : unl ops L = 0 := by omega
    have hall : ∀ i, i < ops.size → L.getD i false = true := by
      intro i hi
      have := List.countP_eq_zero.1 hu0 i (List.mem_range.2 hi)
      simpa using this
    have hr : Region.ready .any ops L = [] := by
      cases hc' : Region.ready .any ops L with
      | nil => rfl
      | cons x xs =>
        have hm : x ∈ Region.ready .any ops L := by rw [hc']; exact List.mem_cons_self
        obtain ⟨m1, o, m2, _⟩ := mem_ready.1 hm
        have hlt := (Array.getElem?_eq_some_iff.1 m2).1
        have := hall x hlt
        rw [Array.getD_eq_getD_getElem?, Array.getElem?_eq_getElem (by omega)] at this m1
        simp only [Option.getD_some] at this m1
        rw [this] at m1; cases m1
    exact ⟨hr, draw_done hst hP hQ hX h hsz hr⟩
  | fuel + 1, L, X, a, w, ι, hX, h, hc, hsz, hu => by
    refine ⟨fun hr => draw_done hst hP hQ hX h hsz hr, fun i hm => ?_⟩
    obtain ⟨m1, o, m2, m3⟩ := mem_ready.1 hm
    have hlt := (Array.getElem?_eq_some_iff.1 m2).1
    have hi : L.getD i false = false := by
      rw [Array.getD_eq_getD_getElem?, Array.getElem?_eq_getElem (by omega)] at m1 ⊢
      exact m1
    refine draw_step hE hops hst hP hB hX h hc hsz m2 hi m3 ?_
    intro X' hX' ι' a' w' h'
    refine draw_any hQ fuel _ X' a' w' ι' hX' h' ?_ (by simpa using hsz) ?_
    · intro j oj hj hl e he hb
      rw [getD_set _ _ _ (by omega)] at hl ⊢
      by_cases ej : j = i
      · subst ej
        rw [m2] at hj; cases hj
        rw [m3 e he hb]; rfl
      · have hl' : L.getD j false = true := by simpa [ej] using hl
        rw [hc j oj hj hl' e he hb]; rfl
    · have : unl ops (L.setIfInBounds i true) < unl ops L := by
        refine countP_lt (x := i) ?_ (List.mem_range.2 hlt) (by simp [hi]) ?_
        · intro x hx
          rw [getD_set _ _ _ (by omega)] at hx
          cases hlx : L.getD x false with
          | true => rw [hlx] at hx; simp at hx
          | false => rfl
        · rw [getD_set _ _ _ (by omega)]; simp
      omega

include hE hops hst hP in
/-- A REGION that draws its order -/
theorem draw_ok (hmix : E.P.P.follows .mixedOrders = true) {X0 : Ent} (hX0 : X0 ∈ ents) (z1 : X0.S = 0) (z2 : X0.ins = 0) (z3 : X0.h = s.h) (z4 : s.nx ≤ X0.nx) (z5 : ∀ i id O, kind i = .fl id O → id < X0.nx)
    {ro : Option Nat} {m : Nat} {id : Nat} {a : Act} {w : World} (hg : Good E ρ B nt s a w) :
    (Code.region id ops true).wpIn (W ro) m E.P.P (fun e a w => e = .normal ∧ Good E ρ B nt ⟨tm ops.size, s.df, hfin, fin.nx⟩ a w) a w := by
  refine wpIn_region_any hmix ?_
  obtain ⟨ι, g1, g2, g3, g4⟩ := hg.rel
  have hrep : ∀ i, (Array.replicate ops.size false).getD i false = false := by
    intro i
    rw [Array.getD_eq_getD_getElem?, Array.getElem?_replicate]
    split <;> rfl
  refine draw_any (E := E) (B := B) hE hops hst hP g4.nxle (fun a w h => ⟨rfl, h⟩) ops.size _ X0 a _ ι hX0 ⟨?_, ?_, ?_, ⟨s.tm, ⟨?_, ?_⟩, g2⟩, g3, ?_, ?_⟩ ?_ (by simp) ?_
  · intro i _
    rw [z1, tb_zero, hrep]
  · intro i hi
    rw [z2, tb_zero] at hi; cases hi
  · rw [z3]; exact HR.of_heap g1 (by rfl) z4
  · intro j o t _ _ hl
    rw [hrep] at hl; cases hl
  · intro t _; rfl
  · rw [z3]; exact Nxt.of_heap g4 (by rfl) (by exact ⟨rfl, rfl, rfl⟩) z4
  · intro i fid O hk
    refine ⟨z5 i fid O hk, fun _ => g1.none_of_ge (by rw [(hP.flid i fid O hk).1]; omega), fun hl => ?_⟩
    rw [hrep] at hl; cases hl
  · intro i o ho hl
    rw [hrep] at hl; cases hl
  · unfold unl
    have := List.countP_le_length (p := fun i => !(Array.replicate ops.size false).getD i false) (l := List.range ops.size)
    simpa using this
end
end Go.Proofs.YtoklobcagaolmaaGreatDoor.SE
end

noncomputable section
namespace Go.Proofs.YtoklobcagaolmaaGreatDoor.SE

/-! ## the evaluator's run makes a plan -/
def upd {α : Type} (f : Nat → α) (i : Nat) (x : α) : Nat → α := fun j => if j = i then x else f j
theorem upd_same {α : Type} (f : Nat → α) (i : Nat) (x : α) : upd f i x i = x := by simp [upd]
theorem upd_other {α : Type} (f : Nat → α) {i j : Nat} (x : α) (h : j ≠ i) : upd f i x j = f j := by simp [upd, h]

def DS.main (D : DS) : Ent := ⟨D.S, D.ins, D.h, D.nx⟩
def DS.ents (D : DS) : List Ent := D.main :: D.old

def EffOk (E : Env) (ops : Array Oper) (kind : Nat → DK) (ents : List Ent) (o : Oper) (i : Nat) (t : T AV) (v : AV) : Prop :=
  ∀ X ∈ ents, tb X.S i = false → Ena ops kind X i → ∃ X' ∈ ents, (∀ j, tb X'.S j = (tb X.S j || decide (j = i))) ∧ (∀ j, tb X'.ins j = true → tb X.ins j = true ∨ Bef ops j i) ∧ (∀ j, tb X.ins j = true → tb X'.ins j = true) ∧
      ∃ h1, InsR kind X.ins X'.ins X.h h1 ∧ effA o.op E t h1 X.nx = .ok ⟨v, X'.h, X'.nx⟩

structure BInv (E : Env) (ops : Array Oper) (rows : T Nat) (tm0 : T AV) (h0 : T AO) (nx0 k0 : Nat) (val : Nat → AV) (tmv : Nat → T AV) (kind : Nat → DK) (D : DS) : Prop where
  out : ∀ j, D.i ≤ j → kind j = .skip
  tm : TmAt ops tm0 val (fun j => j < D.i) D.tm
  tms : ∀ j, j < D.i → TmAt ops tm0 val (fun k => k < j) (tmv j)
  skip : ∀ j o, j < D.i → ops[j]? = some o → kind j = .skip → wantedA ops o (tmv j) = some false ∧ val j = undefA
  quiet : ∀ j o, ops[j]? = some o → kind j = .quiet → wantedA ops o (tmv j) = some true ∧ ∀ X ∈ D.ents, Win ops kind X j → stepA o.op E (tmv j) X.h X.nx = .val (val j)
  qs : ∀ j o, ops[j]? = some o → kind j = .quiet → (∀ h nx, stepA o.op E (tmv j) h nx = .val (val j)) ∨ (⟨j, opt (rows.get j) 0 id, o.op, tmv j, val j⟩ : QR) ∈ D.qs
  float : ∀ j o id O, ops[j]? = some o → kind j = .fl id O → wantedA ops o (tmv j) = some true ∧ isFl o.op = true ∧ flObj o.op E (tmv j) id = .ok (val j, O)
  flid : ∀ j id O, kind j = .fl id O → id = nx0 + j ∧ O.mate? = none
  fls : ∀ j id O, kind j = .fl id O ↔ (j, id, O) ∈ D.fl
  eff : ∀ j o, ops[j]? = some o → kind j = .eff → wantedA ops o (tmv j) = some true ∧ EffOk E ops kind D.ents o j (tmv j) (val j)
  S : ∀ j, tb D.S j = true ↔ kind j = .eff
  sub : ∀ X ∈ D.ents, ∀ j, tb X.S j = true → kind j = .eff
  ins : ∀ X ∈ D.ents, ∀ q, tb X.ins q = true → ∃ e, tb X.S e = true ∧ Bef ops q e
  old : ∀ X ∈ D.old, ∃ j, kind j = .eff ∧ tb X.S j = false
  lst : ∀ e ide, D.lst = some (e, ide) → kind e = .eff ∧ ∃ oe t x y off, ops[e]? = some oe ∧ oe.op = .store t x y ∧ ev (tmv e) x = .ok (.ptr ide off)
  first : ∃ X0 ∈ D.ents, X0.S = 0 ∧ X0.ins = 0 ∧ X0.h = h0 ∧ X0.nx = k0

section
variable {E : Env} {ops : Array Oper} {rows : T Nat} (hst : StatOk ops rows) {tm0 : T AV} {h0 : T AO} {nx0 k0 : Nat} {val : Nat → AV} {tmv : Nat → T AV} {kind : Nat → DK}

theorem Win.mono {kind' : Nat → DK} (hk : ∀ j, kind j = .eff → kind' j = .eff) {X : Ent} {i : Nat} (h : Win ops kind' X i) : Win ops kind X i :=
  ⟨fun j hj hb => h.1 j (hk j hj) hb, fun j hj ht => h.2 j (hk j hj) ht⟩
theorem Ena.mono {kind' : Nat → DK} (hk : ∀ j, kind j = .eff → kind' j = .eff) {X : Ent} {i : Nat} (h : Ena ops kind' X i) : Ena ops kind X i := fun j hj hb => h j (hk j hj) hb
theorem InsR.mono {kind' : Nat → DK} (hk : ∀ j id O, kind j = .fl id O → kind' j = .fl id O) {a b : Nat} {h h' : T AO} (hi : InsR kind a b h h') : InsR kind' a b h h' := by
  induction hi with
  | nil h => exact .nil h
  | cons j id O hkj h1 h2 hs ih => exact .cons j id O (hk j id O hkj) h1 h2 ih
theorem EffOk.mono {kind' : Nat → DK} (hk : ∀ j, kind j = .eff → kind' j = .eff) (hf : ∀ j id O, kind j = .fl id O → kind' j = .fl id O) {ents : List Ent} {o : Oper} {i : Nat} {t : T AV} {v : AV} (h : EffOk E ops kind ents o i t v) :
    EffOk E ops kind' ents o i t v := by
  intro X hX ht he
  obtain ⟨X', hX', s1, s2, s3, h1, s4, s5⟩ := h X hX ht (he.mono hk)
  exact ⟨X', hX', s1, s2, s3, h1, s4.mono hf, s5⟩

include hst in
theorem TmAt.next {i : Nat} {o : Oper} (ho : ops[i]? = some o) {t : T AV} (h : TmAt ops tm0 val (fun j => j < i) t) (v : AV) : TmAt ops tm0 (upd val i v) (fun j => j < i + 1) (putA o.dst t v) := by
  have h' : TmAt ops tm0 (upd val i v) (fun j => j < i) t :=
    ⟨fun j oj t' hj ht hD => by rw [upd_other _ _ (by have hD : j < i := hD; omega)]; exact h.done j oj t' hj ht hD, h.rest⟩
  have := h'.put hst ho
  rw [upd_same] at this
  exact this.congr fun j => by constructor <;> (intro h; omega)
theorem TmAt.upd {i j : Nat} (hj : j ≤ i) {t : T AV} (h : TmAt ops tm0 val (fun k => k < j) t) (v : AV) : TmAt ops tm0 (SE.upd val i v) (fun k => k < j) t :=
  ⟨fun k ok t' hk ht hD => by rw [upd_other _ _ (by have hD : k < j := hD; omega)]; exact h.done k ok t' hk ht hD, h.rest⟩

theorem row_bef (hst : StatOk ops rows) {i j : Nat} (h : tb (opt (rows.get i) 0 id) j = true) : Bef ops j i := by
  cases hg : rows.get i with
  | none => rw [hg] at h; rw [show opt (none : Option Nat) 0 id = 0 from rfl, tb_zero] at h; cases h
  | some m => rw [hg] at h; exact hst.rows i m hg j h

/-- an operation that makes no effect: its row of the plan -/
theorem BInv.next (hst : StatOk ops rows) {D D' : DS} (b : BInv E ops rows tm0 h0 nx0 k0 val tmv kind D) {o : Oper} (ho : ops[D.i]? = some o) {k : DK} {v : AV} (hk : k ≠ .eff)
    (e1 : D'.i = D.i + 1) (e2 : D'.tm = putA o.dst D.tm v) (e3 : D'.S = D.S) (e4 : D'.ins = D.ins) (e5 : D'.h = D.h) (e6 : D'.nx = D.nx) (e7 : D'.old = D.old) (e8 : ∀ q ∈ D.qs, q ∈ D'.qs) (e9 : D'.lst = D.lst)
    (c1 : k = .skip → wantedA ops o D.tm = some false ∧ v = undefA) (c2 : k = .quiet → wantedA ops o D.tm = some true ∧ (∀ X ∈ D.ents, Win ops (upd kind D.i k) X D.i → stepA o.op E D.tm X.h X.nx = .val v) ∧
      ((∀ h nx, stepA o.op E D.tm h nx = .val v) ∨ (⟨D.i, opt (rows.get D.i) 0 id, o.op, D.tm, v⟩ : QR) ∈ D'.qs))
    (c3 : ∀ id O, k = .fl id O → (wantedA ops o D.tm = some true ∧ isFl o.op = true ∧ flObj o.op E D.tm id = .ok (v, O)) ∧ id = nx0 + D.i ∧ O.mate? = none)
    (c4 : ∀ j id O, (j, id, O) ∈ D'.fl ↔ (j, id, O) ∈ D.fl ∨ (j = D.i ∧ k = .fl id O)) :
    BInv E ops rows tm0 h0 nx0 k0 (upd val D.i v) (upd tmv D.i D.tm) (upd kind D.i k) D' := by
  have hs := b.out D.i (Nat.le_refl _)
  have hme : ∀ j, kind j = .eff → upd kind D.i k j = .eff := fun j hj => by
    rw [upd_other _ _ (fun e => by subst e; rw [hs] at hj; cases hj)]; exact hj
  have hmf : ∀ j id O, kind j = .fl id O → upd kind D.i k j = .fl id O := fun j id O hj => by
    rw [upd_other _ _ (fun e => by subst e; rw [hs] at hj; cases hj)]; exact hj
  have hent : D'.ents = D.ents := by unfold DS.ents DS.main; rw [e3, e4, e5, e6, e7]
  have heff : ∀ j, upd kind D.i k j = .eff → kind j = .eff := fun j hj => by
    by_cases e : j = D.i
    · subst e; rw [upd_same] at hj; exact absurd hj hk
    · rw [upd_other _ _ e] at hj; exact hj
  refine ⟨?_, ?_, ?_, ?_, ?_, ?_, ?_, ?_, ?_, ?_, ?_, ?_, ?_, ?_, ?_, ?_⟩
  · intro j hj
    rw [upd_other _ _ (by omega)]
    exact b.out j (by omega)
  · rw [e2, e1]
    exact TmAt.next hst ho b.tm v
  · intro j hj
    by_cases e : j = D.i
    · subst e; rw [upd_same]; exact b.tm.upd (Nat.le_refl _) v
    · rw [upd_other _ _ e]; exact (b.tms j (by omega)).upd (by omega) v
  · intro j oj hj hoj hkj
    by_cases e : j = D.i
    · subst e
      rw [ho] at hoj; cases hoj
      rw [upd_same] at hkj ⊢
      rw [upd_same]
      exact c1 hkj
    · rw [upd_other _ _ e] at hkj ⊢
      rw [upd_other _ _ e]
      exact b.skip j oj (by omega) hoj hkj
  · intro j oj hoj hkj
    rw [hent]
    by_cases e : j = D.i
    · subst e
      rw [ho] at hoj; cases hoj
      rw [upd_same] at hkj
      rw [upd_same, upd_same]
      exact ⟨(c2 hkj).1, (c2 hkj).2.1⟩
    · rw [upd_other _ _ e] at hkj ⊢
      rw [upd_other _ _ e]
      obtain ⟨q1, q2⟩ := b.quiet j oj hoj hkj
      exact ⟨q1, fun X hX hw => q2 X hX (hw.mono hme)⟩
  · intro j oj hoj hkj
    by_cases e : j = D.i
    · subst e
      rw [ho] at hoj; cases hoj
      rw [upd_same] at hkj
      rw [upd_same, upd_same]
      exact (c2 hkj).2.2
    · rw [upd_other _ _ e] at hkj ⊢
      rw [upd_other _ _ e]
      exact (b.qs j oj hoj hkj).imp id (e8 _)
  · intro j oj id O hoj hkj
    by_cases e : j = D.i
    · subst e
      rw [ho] at hoj; cases hoj
      rw [upd_same] at hkj
      rw [upd_same, upd_same]
      exact (c3 id O hkj).1
    · rw [upd_other _ _ e] at hkj ⊢
      rw [upd_other _ _ e]
      exact b.float j oj id O hoj hkj
  · intro j id O hkj
    by_cases e : j = D.i
    · subst e
      rw [upd_same] at hkj
      exact (c3 id O hkj).2
    · rw [upd_other _ _ e] at hkj
      exact b.flid j id O hkj
  · intro j id O
    rw [c4 j id O]
    by_cases e : j = D.i
    · subst e
      rw [upd_same]
      constructor
      · intro h; exact .inr ⟨rfl, h⟩
      · rintro (h | h)
        · have := (b.fls D.i id O).2 h; rw [hs] at this; cases this
        · exact h.2
    · rw [upd_other _ _ e, b.fls j id O]
      constructor
      · intro h; exact .inl h
      · rintro (h | h)
        · exact h
        · exact absurd h.1 e
  · intro j oj hoj hkj
    have hkj' := heff j hkj
    have e : j ≠ D.i := fun e => by subst e; rw [hs] at hkj'; cases hkj'
    rw [upd_other _ _ e, upd_other _ _ e, hent]
    obtain ⟨q1, q2⟩ := b.eff j oj hoj hkj'
    exact ⟨q1, q2.mono hme hmf⟩
  · intro j
    rw [e3, b.S j]
    exact ⟨hme j, heff j⟩
  · intro X hX j hj
    rw [hent] at hX
    exact hme j (b.sub X hX j hj)
  · intro X hX q hq
    rw [hent] at hX
    exact b.ins X hX q hq
  · intro X hX
    rw [e7] at hX
    obtain ⟨j, h1, h2⟩ := b.old X hX
    exact ⟨j, hme j h1, h2⟩
  · intro e ide he
    rw [e9] at he
    obtain ⟨h1, h2⟩ := b.lst e ide he
    have hne : e ≠ D.i := fun e' => by subst e'; rw [hs] at h1; cases h1
    rw [upd_other _ _ hne, upd_other _ _ hne]
    exact ⟨h1, h2⟩
  · rw [hent]; exact b.first

/-- what a reading's check says -/
theorem qOk_ok (hst : StatOk ops rows) {kind' : Nat → DK} {X : Ent} {em j : Nat} {op : Op} {t : T AV} {v : AV} (hq : qOk E em X ⟨j, opt (rows.get j) 0 id, op, t, v⟩ = true) (hem : ∀ k, tb em k = true → kind' k = .eff)
    (hins : ∀ q, tb X.ins q = true → ∃ e, tb X.S e = true ∧ Bef ops q e) (hsub : ∀ k, tb X.S k = true → kind' k = .eff) (hw : Win ops kind' X j) : stepA op E t X.h X.nx = .val v := by
  have hq : bif2 (tb X.ins j) true (bif2 (sub2 (Nat.land (opt (rows.get j) 0 id) em) X.S) (sameStep (stepA op E t X.h X.nx) v) true) = true := hq
  cases hi : tb X.ins j with
  | true =>
    obtain ⟨e, h1, h2⟩ := hins j hi
    exact absurd h2 (hw.2 e (hsub e h1) h1)
  | false =>
    rw [hi] at hq
    have hs : sub2 (Nat.land (opt (rows.get j) 0 id) em) X.S = true := sub2_of fun k hk => by
      rw [tb_land, Bool.and_eq_true] at hk
      exact hw.1 k (hem k hk.2) (row_bef hst hk.1)
    rw [hs] at hq
    have hq : sameStep (stepA op E t X.h X.nx) v = true := hq
    cases hst' : stepA op E t X.h X.nx with
    | val u =>
      rw [hst'] at hq
      rw [same_eq u v hq]
    | eff _ _ _ => rw [hst'] at hq; cases hq
    | call _ _ => rw [hst'] at hq; cases hq
    | defer _ _ => rw [hst'] at hq; cases hq
    | round _ _ => rw [hst'] at hq; cases hq
    | no _ => rw [hst'] at hq; cases hq
theorem qsOk_ok {em : Nat} {X : Ent} : ∀ {l : List QR}, qsOk E em X l = true → ∀ q ∈ l, qOk E em X q = true
  | [], _, q, hq => by cases hq
  | x :: l, h, q, hq => by
    have h : bif2 (qOk E em X x) (qsOk E em X l) false = true := h
    cases hx : qOk E em X x with
    | false => rw [hx] at h; cases h
    | true =>
      rw [hx] at h
      rcases List.mem_cons.1 hq with rfl | hq
      · exact hx
      · exact qsOk_ok h q hq
theorem oldsOk_ok {em : Nat} {q : QR} : ∀ {l : List Ent}, oldsOk E em q l = true → ∀ X ∈ l, qOk E em X q = true
  | [], _, q, hq => by cases hq
  | x :: l, h, X, hX => by
    have h : bif2 (qOk E em x q) (oldsOk E em q l) false = true := h
    cases hx : qOk E em x q with
    | false => rw [hx] at h; cases h
    | true =>
      rw [hx] at h
      rcases List.mem_cons.1 hX with rfl | hX
      · exact hx
      · exact oldsOk_ok h X hX
end
end Go.Proofs.YtoklobcagaolmaaGreatDoor.SE
end

noncomputable section
namespace Go.Proofs.YtoklobcagaolmaaGreatDoor.SE

section
variable {E : Env} {ops : Array Oper} {rows : T Nat} {tm0 : T AV} {h0 : T AO} {nx0 k0 : Nat} {val : Nat → AV} {tmv : Nat → T AV} {kind : Nat → DK}

theorem tgt_ok {op : Op} {t : T AV} {id : Nat} (h : tgt op t = some id) : ∃ ty x y off, op = .store ty x y ∧ ev t x = .ok (.ptr id off) := by
  unfold tgt at h
  split at h
  · rename_i ty x y
    split at h
    · rename_i v hv
      obtain ⟨p, hp, e⟩ := opt_eq_some h
      cases e
      rw [ptr?_eq hp] at hv
      exact ⟨ty, x, y, _, rfl, hv⟩
    · cases h
  · cases h
theorem effA_store {ty : TypeId} {x y : Operand} {t : T AV} {h h' : T AO} {nx nx' : Nat} {v : AV} (he : effA (.store ty x y) E t h nx = .ok ⟨v, h', nx'⟩) : oStore ty x y E t h nx = .eff v h' nx' := by
  have hp : (oStore ty x y E t h nx).plain := plain_elim fun _ => plain_opt fun _ => plain_elim fun _ => plain_elim fun _ => trivial
  have he : (oStore ty x y E t h nx).elim (fun _ => .no "draw: no effect") (fun v h' nx' => R.ok ⟨v, h', nx'⟩) (fun g args => E.call g args h nx) (fun _ _ => .no "draw: defer") (fun _ _ => .no "draw: round") .no = .ok ⟨v, h', nx'⟩ := he
  cases hs : oStore ty x y E t h nx with
  | eff v1 h1 n1 => rw [hs] at he; cases he; rfl
  | val _ => rw [hs] at he; cases he
  | no _ => rw [hs] at he; cases he
  | call _ _ => rw [hs] at hp; exact hp.elim
  | defer _ _ => rw [hs] at hp; exact hp.elim
  | round _ _ => rw [hs] at hp; exact hp.elim
theorem store_effA {ty : TypeId} {x y : Operand} {t : T AV} {h h' : T AO} {nx nx' : Nat} {v : AV} (he : oStore ty x y E t h nx = .eff v h' nx') : effA (.store ty x y) E t h nx = .ok ⟨v, h', nx'⟩ := by
  show (oStore ty x y E t h nx).elim (fun _ => .no "draw: no effect") (fun v h' nx' => R.ok ⟨v, h', nx'⟩) (fun g args => E.call g args h nx) (fun _ _ => .no "draw: defer") (fun _ _ => .no "draw: round") .no = .ok ⟨v, h', nx'⟩
  rw [he]
  rfl

/-- laying new memory into the heap -/
theorem insF_ok {row ins ins' : Nat} (hr : ∀ j, tb row j = true → tb ins' j = true) : ∀ {fl : List (Nat × Nat × AO)} {h : T AO}, (∀ f ∈ fl, kind f.1 = .fl f.2.1 f.2.2) → InsR kind ins ins' h (insF fl row ins h)
  | [], h, _ => .nil h
  | f :: fl, h, hf => by
    have e : insF (f :: fl) row ins h = insF fl row ins (bif2 (tb row f.1) (bif2 (tb ins f.1) h (h.set f.2.1 f.2.2)) h) := rfl
    rw [e]
    have hf' : ∀ g ∈ fl, kind g.1 = .fl g.2.1 g.2.2 := fun g hg => hf g (by simp [hg])
    cases h1 : tb row f.1 with
    | false => exact insF_ok hr hf'
    | true =>
      simp only [bif2_true]
      cases h2 : tb ins f.1 with
      | true => exact insF_ok hr hf'
      | false => exact .cons f.1 f.2.1 f.2.2 (hf f (by simp)) h2 (hr _ h1) (insF_ok hr hf')
theorem insF_all {row ins : Nat} : ∀ {fl : List (Nat × Nat × AO)} {h : T AO}, (∀ f ∈ fl, tb ins f.1 = true) → insF fl row ins h = h
  | [], h, _ => rfl
  | f :: fl, h, hf => by
    have e : insF (f :: fl) row ins h = insF fl row ins (bif2 (tb row f.1) (bif2 (tb ins f.1) h (h.set f.2.1 f.2.2)) h) := rfl
    rw [e, hf f (by simp)]
    have : bif2 (tb row f.1) (bif2 true h (h.set f.2.1 f.2.2)) h = h := by cases tb row f.1 <;> rfl
    rw [this]
    exact insF_all fun g hg => hf g (by simp [hg])
theorem insR_all {ins ins' : Nat} {h h' : T AO} (hi : InsR kind ins ins' h h') (ha : ∀ j id O, kind j = .fl id O → tb ins j = true) : h' = h := by
  cases hi with
  | nil => rfl
  | cons j id O hk h1 h2 hs => rw [ha j id O hk] at h1; cases h1

/-- what stands between two stores in the other order -/
structure XOk (E : Env) (op : Op) (t : T AV) (i row S : Nat) (fl : List (Nat × Nat × AO)) (qs : List QR) (lst : Option (Nat × Nat)) (X Y : Ent) : Prop where
  mS : Y.S = Nat.lor X.S (bit i)
  mI : Y.ins = Nat.lor X.ins row
  eff : ∃ v, effA op E t X.h X.nx = .ok ⟨v, Y.h, Y.nx⟩
  qs : qsOk E S Y qs = true
  swap : ∃ e ide idi, lst = some (e, ide) ∧ tgt op t = some idi ∧ Nat.lor X.S (bit e) = S ∧ tb X.S e = false ∧ apartA X.h ide idi = true ∧ ∀ f ∈ fl, tb X.ins f.1 = true

theorem extra_ok {op : Op} {t : T AV} {i row S : Nat} {fl : List (Nat × Nat × AO)} {qs : List QR} {lst : Option (Nat × Nat)} {X : Ent} {l : List Ent} (he : extra E op t i row S fl qs lst X = .ok l) :
    (∀ Y ∈ l, XOk E op t i row S fl qs lst X Y) ∧ (sub2 (Nat.land row S) X.S = true → ∃ Y, Y ∈ l) := by
  unfold extra at he
  cases hs : sub2 (Nat.land row S) X.S with
  | false =>
    rw [hs] at he
    cases he
    exact ⟨(fun Y hY => by cases hY), (fun h => by cases h)⟩
  | true =>
    rw [hs] at he
    simp only [bif2_true] at he
    split at he
    · rename_i e ide idi ht
      obtain ⟨hsw, he⟩ := bif2_eq_ok he
      obtain ⟨r, hr, he⟩ := R.elim_eq_ok he
      obtain ⟨hq, he⟩ := bif2_eq_ok he
      cases he
      unfold swapOk at hsw
      simp only [Bool.and_eq_true, Bool.not_eq_true'] at hsw
      obtain ⟨⟨s1, s2⟩, s3, s4⟩ := hsw
      refine ⟨?_, fun _ => ⟨_, List.mem_singleton.2 rfl⟩⟩
      intro Y hY
      rw [List.mem_singleton] at hY
      subst hY
      exact ⟨rfl, rfl, ⟨r.v, hr⟩, hq, e, ide, idi, rfl, ht, beqN s1, s2, s3, fun f hf => by unfold insAll at s4; exact List.all_eq_true.1 s4 f hf⟩
    · cases he
theorem extras_ok {op : Op} {t : T AV} {i row S : Nat} {fl : List (Nat × Nat × AO)} {qs : List QR} {lst : Option (Nat × Nat)} : ∀ {old l : List Ent}, extras E op t i row S fl qs lst old = .ok l →
    (∀ Y ∈ l, ∃ X ∈ old, XOk E op t i row S fl qs lst X Y) ∧ (∀ X ∈ old, sub2 (Nat.land row S) X.S = true → ∃ Y ∈ l, XOk E op t i row S fl qs lst X Y)
  | [], l, he => by
    have he : R.ok [] = R.ok l := he
    cases he
    exact ⟨(fun Y hY => by cases hY), (fun X hX => by cases hX)⟩
  | X :: old, l, he => by
    have he : (extra E op t i row S fl qs lst X).elim (fun a => (extras E op t i row S fl qs lst old).elim (fun b => R.ok (List.append a b)) .no) .no = .ok l := he
    obtain ⟨a, ha, he⟩ := R.elim_eq_ok he
    obtain ⟨b, hb, he⟩ := R.elim_eq_ok he
    cases he
    obtain ⟨a1, a2⟩ := extra_ok ha
    obtain ⟨b1, b2⟩ := extras_ok hb
    constructor
    · intro Y hY
      rcases List.mem_append.1 (show Y ∈ a ++ b from hY) with hY | hY
      · exact ⟨X, by simp, a1 Y hY⟩
      · obtain ⟨X', h1, h2⟩ := b1 Y hY
        exact ⟨X', by simp [h1], h2⟩
    · intro X' hX' hs
      rcases List.mem_cons.1 hX' with rfl | hX'
      · obtain ⟨Y, hY⟩ := a2 hs
        exact ⟨Y, List.mem_append.2 (.inl hY), a1 Y hY⟩
      · obtain ⟨Y, h1, h2⟩ := b2 X' hX' hs
        exact ⟨Y, List.mem_append.2 (.inr h1), h2⟩

/-- an effect: its row of the plan -/
theorem BInv.effect (hst : StatOk ops rows) {D : DS} (b : BInv E ops rows tm0 h0 nx0 k0 val tmv kind D) {o : Oper} (ho : ops[D.i]? = some o) (hw : wantedA ops o D.tm = some true) {v : AV} {h' : T AO} {nx' : Nat} {xs : List Ent}
    (he : effA o.op E D.tm (insF D.fl (opt (rows.get D.i) 0 id) D.ins D.h) D.nx = .ok ⟨v, h', nx'⟩)
    (hq : qsOk E D.S ⟨Nat.lor D.S (bit D.i), Nat.lor D.ins (opt (rows.get D.i) 0 id), h', nx'⟩ D.qs = true)
    (hx : extras E o.op D.tm D.i (opt (rows.get D.i) 0 id) D.S D.fl D.qs D.lst D.old = .ok xs) :
    BInv E ops rows tm0 h0 nx0 k0 (upd val D.i v) (upd tmv D.i D.tm) (upd kind D.i .eff)
      ⟨D.i + 1, putA o.dst D.tm v, Nat.lor D.S (bit D.i), Nat.lor D.ins (opt (rows.get D.i) 0 id), h', nx', List.append xs (⟨D.S, D.ins, D.h, D.nx⟩ :: D.old), D.fl, D.qs, opt (tgt o.op D.tm) none fun t => some (D.i, t)⟩ := by
  have hs := b.out D.i (Nat.le_refl _)
  have hme : ∀ j, kind j = .eff → upd kind D.i .eff j = .eff := fun j hj => by
    rw [upd_other _ _ (fun e => by subst e; rw [hs] at hj; cases hj)]; exact hj
  have hmf : ∀ j id O, kind j = .fl id O → upd kind D.i .eff j = .fl id O := fun j id O hj => by
    rw [upd_other _ _ (fun e => by subst e; rw [hs] at hj; cases hj)]; exact hj
  have hni : ∀ X ∈ D.ents, tb X.S D.i = false := fun X hX => by
    cases hb : tb X.S D.i with
    | false => rfl
    | true => have := b.sub X hX _ hb; rw [hs] at this; cases this
  have hbe : ∀ j, kind j = .eff → j ≠ D.i := fun j hj e => by subst e; rw [hs] at hj; cases hj
  obtain ⟨x1, x2⟩ := extras_ok hx
  have hold : ∀ X ∈ D.old, X ∈ D.ents := fun X hX => List.mem_cons_of_mem _ hX
  have hmain : D.main ∈ D.ents := List.mem_cons_self
  have hfl : ∀ f ∈ D.fl, kind f.1 = .fl f.2.1 f.2.2 := fun f hf => (b.fls f.1 f.2.1 f.2.2).2 hf
  -- the stores in the other order
  have key : ∀ X ∈ D.old, ∀ Y, XOk E o.op D.tm D.i (opt (rows.get D.i) 0 id) D.S D.fl D.qs D.lst X Y → v = undefA ∧ effA o.op E D.tm X.h X.nx = .ok ⟨undefA, Y.h, Y.nx⟩ ∧
      ∃ e, kind e = .eff ∧ (∀ j, tb D.S j = (tb X.S j || decide (j = e))) ∧ tb X.S e = false ∧
        (Ena ops kind X e → (∀ j, tb D.ins j = true → tb X.ins j = true ∨ Bef ops j e) ∧ (∀ j, tb X.ins j = true → tb D.ins j = true) ∧
        ∃ oe, ops[e]? = some oe ∧ effA oe.op E (tmv e) Y.h Y.nx = .ok ⟨val e, h', nx'⟩) := by
    intro X hX Y hY
    obtain ⟨vY, yeff⟩ := hY.eff
    obtain ⟨e, ide, idi, w1, w2, w3, w4, w5, w6⟩ := hY.swap
    obtain ⟨ke, oe, te, xe, ye, offe, l1, l2, l3⟩ := b.lst e ide w1
    obtain ⟨ti, xi, yi, offi, g1, g2⟩ := tgt_ok w2
    have hSe : ∀ j, tb D.S j = (tb X.S j || decide (j = e)) := fun j => by
      rw [← w3, tb_lor, tb_bit]
      congr 1
      exact decide_eq_decide.2 ⟨fun h => h.symm, fun h => h.symm⟩
    rw [g1] at yeff he ⊢
    have si := effA_store yeff
    obtain ⟨p1, p2, _⟩ := store_shape si
    have sm := effA_store he
    obtain ⟨m1, m2, _⟩ := store_shape sm
    refine ⟨m1, by rw [← p1]; exact yeff, e, ke, hSe, w4, ?_⟩
    intro hen
    obtain ⟨X', hX', q1, q2, q3, h1, q4, q5⟩ := (b.eff e oe l1 ke).2 X (hold X hX) w4 hen
    have hX'm : X' = D.main := by
      rcases List.mem_cons.1 hX' with h | h
      · exact h
      · obtain ⟨j, j1, j2⟩ := b.old X' h
        have h3 := (b.S j).2 j1
        rw [hSe j] at h3
        rw [q1 j, h3] at j2; cases j2
    subst hX'm
    have hins : ∀ j id O, kind j = .fl id O → tb X.ins j = true := fun j id O hk => w6 (j, id, O) ((b.fls j id O).1 hk)
    have hh1 := insR_all q4 hins
    subst hh1
    refine ⟨q2, q3, oe, l1, ?_⟩
    rw [l2] at q5 ⊢
    have se := effA_store q5
    have hins2 : insF D.fl (opt (rows.get D.i) 0 id) D.ins D.h = D.h := insF_all fun f hf => q3 f.1 (w6 f hf)
    rw [hins2] at sm
    obtain ⟨hh, k1, k2⟩ := store_swap si se g2 l3 w5
    obtain ⟨r1, r2, _⟩ := store_shape se
    have k1' : oStore ti xi yi E D.tm D.h D.nx = .eff undefA hh X.nx := k1
    rw [sm] at k1'
    injection k1' with k3 k4 k5
    rw [r1, k4, k5]
    exact store_effA k2
  have memY : ∀ Y ∈ (⟨D.i + 1, putA o.dst D.tm v, Nat.lor D.S (bit D.i), Nat.lor D.ins (opt (rows.get D.i) 0 id), h', nx', List.append xs (⟨D.S, D.ins, D.h, D.nx⟩ :: D.old), D.fl, D.qs, opt (tgt o.op D.tm) none fun t => some (D.i, t)⟩ : DS).ents,
      Y = ⟨Nat.lor D.S (bit D.i), Nat.lor D.ins (opt (rows.get D.i) 0 id), h', nx'⟩ ∨ Y ∈ xs ∨ Y ∈ D.ents := by
    intro Y hY
    rcases List.mem_cons.1 hY with h | h
    · exact .inl h
    · rcases List.mem_append.1 (show Y ∈ xs ++ (⟨D.S, D.ins, D.h, D.nx⟩ :: D.old) from h) with h | h
      · exact .inr (.inl h)
      · exact .inr (.inr h)
  have inD : ∀ Y ∈ D.ents, Y ∈ (⟨D.i + 1, putA o.dst D.tm v, Nat.lor D.S (bit D.i), Nat.lor D.ins (opt (rows.get D.i) 0 id), h', nx', List.append xs (⟨D.S, D.ins, D.h, D.nx⟩ :: D.old), D.fl, D.qs, opt (tgt o.op D.tm) none fun t => some (D.i, t)⟩ : DS).ents :=
    fun Y hY => List.mem_cons_of_mem _ (List.mem_append.2 (.inr hY))
  have inX : ∀ Y ∈ xs, Y ∈ (⟨D.i + 1, putA o.dst D.tm v, Nat.lor D.S (bit D.i), Nat.lor D.ins (opt (rows.get D.i) 0 id), h', nx', List.append xs (⟨D.S, D.ins, D.h, D.nx⟩ :: D.old), D.fl, D.qs, opt (tgt o.op D.tm) none fun t => some (D.i, t)⟩ : DS).ents :=
    fun Y hY => List.mem_cons_of_mem _ (List.mem_append.2 (.inl hY))
  have inN : (⟨Nat.lor D.S (bit D.i), Nat.lor D.ins (opt (rows.get D.i) 0 id), h', nx'⟩ : Ent) ∈ (⟨D.i + 1, putA o.dst D.tm v, Nat.lor D.S (bit D.i), Nat.lor D.ins (opt (rows.get D.i) 0 id), h', nx', List.append xs (⟨D.S, D.ins, D.h, D.nx⟩ :: D.old), D.fl, D.qs, opt (tgt o.op D.tm) none fun t => some (D.i, t)⟩ : DS).ents :=
    List.mem_cons_self
  have hSN : ∀ j, tb (Nat.lor D.S (bit D.i)) j = (tb D.S j || decide (j = D.i)) := fun j => by
    rw [tb_lor, tb_bit]
    congr 1
    exact decide_eq_decide.2 ⟨fun h => h.symm, fun h => h.symm⟩
  have hSY : ∀ X Y, XOk E o.op D.tm D.i (opt (rows.get D.i) 0 id) D.S D.fl D.qs D.lst X Y → ∀ j, tb Y.S j = (tb X.S j || decide (j = D.i)) := fun X Y hY j => by
    rw [hY.mS, tb_lor, tb_bit]
    congr 1
    exact decide_eq_decide.2 ⟨fun h => h.symm, fun h => h.symm⟩
  have hnSi : tb D.S D.i = false := hni D.main hmain
  have insN : ∀ (X Y : Ent) (i : Nat), X ∈ D.ents → (∀ j, tb Y.S j = (tb X.S j || decide (j = D.i))) → Y.ins = Nat.lor X.ins (opt (rows.get D.i) 0 id) → ∀ q, tb Y.ins q = true → ∃ e, tb Y.S e = true ∧ Bef ops q e := by
    intro X Y _ hX hS hI q hq
    rw [hI, tb_lor, Bool.or_eq_true] at hq
    rcases hq with hq | hq
    · obtain ⟨e, e1, e2⟩ := b.ins X hX q hq
      exact ⟨e, by rw [hS e, e1]; rfl, e2⟩
    · exact ⟨D.i, by rw [hS]; simp, row_bef hst hq⟩
  have subN : ∀ k, tb (Nat.lor D.S (bit D.i)) k = true → upd kind D.i .eff k = .eff := fun k hk => by
    rw [hSN] at hk
    by_cases e : k = D.i
    · subst e; exact upd_same _ _ _
    · exact hme k ((b.S k).1 (by simpa [e] using hk))
  have subY : ∀ X Y, X ∈ D.ents → XOk E o.op D.tm D.i (opt (rows.get D.i) 0 id) D.S D.fl D.qs D.lst X Y → ∀ k, tb Y.S k = true → upd kind D.i .eff k = .eff := fun X Y hX hY k hk => by
    rw [hSY X Y hY] at hk
    by_cases e : k = D.i
    · subst e; exact upd_same _ _ _
    · exact hme k (b.sub X hX k (by simpa [e] using hk))
  refine ⟨?_, TmAt.next hst ho b.tm v, ?_, ?_, ?_, ?_, ?_, ?_, ?_, ?_, ?_, ?_, ?_, ?_, ?_, ?_⟩
  · intro j hj
    have hj : D.i + 1 ≤ j := hj
    rw [upd_other _ _ (by omega)]
    exact b.out j (by omega)
  · intro j hj
    have hj : j < D.i + 1 := hj
    by_cases e : j = D.i
    · subst e; rw [upd_same]; exact b.tm.upd (Nat.le_refl _) v
    · rw [upd_other _ _ e]; exact (b.tms j (by omega)).upd (by omega) v
  · intro j oj hj hoj hkj
    have hj : j < D.i + 1 := hj
    by_cases e : j = D.i
    · subst e
      rw [upd_same] at hkj
      cases hkj
    · rw [upd_other _ _ e] at hkj ⊢
      rw [upd_other _ _ e]
      exact b.skip j oj (by omega) hoj hkj
  · intro j oj hoj hkj
    have e : j ≠ D.i := fun e => by subst e; rw [upd_same] at hkj; cases hkj
    rw [upd_other _ _ e] at hkj ⊢
    rw [upd_other _ _ e]
    obtain ⟨q1, q2⟩ := b.quiet j oj hoj hkj
    refine ⟨q1, fun Y hY hwn => ?_⟩
    have onew : ∀ Y : Ent, qsOk E D.S Y D.qs = true → (∀ q, tb Y.ins q = true → ∃ e, tb Y.S e = true ∧ Bef ops q e) → (∀ k, tb Y.S k = true → upd kind D.i .eff k = .eff) → Win ops (upd kind D.i .eff) Y j → stepA oj.op E (tmv j) Y.h Y.nx = .val (val j) := by
      intro Y hqs hi hsb hwn
      rcases b.qs j oj hoj hkj with hh | hh
      · exact hh _ _
      · exact qOk_ok hst (qsOk_ok hqs _ hh) (fun k hk => hme k ((b.S k).1 hk)) hi hsb hwn
    rcases memY Y hY with rfl | hY | hY
    · exact onew _ hq (insN D.main _ 0 hmain hSN rfl) (fun k hk => subN k hk) hwn
    · obtain ⟨X, hX, hXY⟩ := x1 Y hY
      exact onew _ hXY.qs (insN X _ 0 (hold X hX) (hSY X Y hXY) hXY.mI) (fun k hk => subY X Y (hold X hX) hXY k hk) hwn
    · exact q2 Y hY (hwn.mono hme)
  · intro j oj hoj hkj
    have e : j ≠ D.i := fun e => by subst e; rw [upd_same] at hkj; cases hkj
    rw [upd_other _ _ e] at hkj ⊢
    rw [upd_other _ _ e]
    exact b.qs j oj hoj hkj
  · intro j oj id O hoj hkj
    have e : j ≠ D.i := fun e => by subst e; rw [upd_same] at hkj; cases hkj
    rw [upd_other _ _ e] at hkj ⊢
    rw [upd_other _ _ e]
    exact b.float j oj id O hoj hkj
  · intro j id O hkj
    have e : j ≠ D.i := fun e => by subst e; rw [upd_same] at hkj; cases hkj
    rw [upd_other _ _ e] at hkj
    exact b.flid j id O hkj
  · intro j id O
    by_cases e : j = D.i
    · subst e
      rw [upd_same]
      constructor
      · intro h; cases h
      · intro h
        have := (b.fls D.i id O).2 h
        rw [hs] at this; cases this
    · rw [upd_other _ _ e]; exact b.fls j id O
  · intro j oj hoj hkj
    by_cases e : j = D.i
    · -- the effect itself
      subst e
      rw [ho] at hoj; cases hoj
      rw [upd_same, upd_same]
      refine ⟨hw, ?_⟩
      intro X hX ht hen
      rcases memY X hX with rfl | hX | hX
      · rw [hSN] at ht; simp at ht
      · obtain ⟨X0, hX0, hXY⟩ := x1 X hX
        rw [hSY X0 X hXY] at ht; simp at ht
      · rcases List.mem_cons.1 hX with rfl | hX
        · refine ⟨_, inN, hSN, ?_, ?_, _, (insF_ok (fun j hj => by rw [tb_lor, hj, Bool.or_true]) hfl).mono hmf, he⟩
          · intro j hj
            rw [tb_lor, Bool.or_eq_true] at hj
            exact hj.imp id (row_bef hst)
          · intro j hj
            have hj : tb D.ins j = true := hj
            rw [tb_lor, hj, Bool.true_or]
        · have hs2 : sub2 (Nat.land (opt (rows.get D.i) 0 id) D.S) X.S = true := sub2_of fun k hk => by
            rw [tb_land, Bool.and_eq_true] at hk
            exact hen k (hme k ((b.S k).1 hk.2)) (row_bef hst hk.1)
          obtain ⟨Y, hY, hXY⟩ := x2 X hX hs2
          obtain ⟨kv, ke, _⟩ := key X hX Y hXY
          refine ⟨Y, inX Y hY, hSY X Y hXY, ?_, ?_, X.h, .nil _, by rw [kv]; exact ke⟩
          · intro j hj
            rw [hXY.mI, tb_lor, Bool.or_eq_true] at hj
            exact hj.imp id (row_bef hst)
          · intro j hj
            rw [hXY.mI, tb_lor, hj, Bool.true_or]
    · rw [upd_other _ _ e] at hkj ⊢
      rw [upd_other _ _ e]
      obtain ⟨q1, q2⟩ := b.eff j oj hoj hkj
      refine ⟨q1, ?_⟩
      intro X hX ht hen
      rcases memY X hX with rfl | hX | hX
      · rw [hSN, (b.S j).2 hkj] at ht; cases ht
      · obtain ⟨X0, hX0, hXY⟩ := x1 X hX
        obtain ⟨kv, _, e0, ke0, kS, kX, krest⟩ := key X0 hX0 X hXY
        have hje : j = e0 := by
          have h1 := kS j
          rw [(b.S j).2 hkj] at h1
          rw [hSY X0 X hXY] at ht
          cases h2 : tb X0.S j with
          | true => rw [h2] at ht; cases ht
          | false => rw [h2] at h1; simpa using h1.symm
        subst hje
        have hen0 : Ena ops kind X0 j := fun k hk hb => by
          have := hen k (hme k hk) hb
          rw [hSY X0 X hXY] at this
          simpa [hbe k hk] using this
        obtain ⟨r1, r2, oe, r3, r4⟩ := krest hen0
        rw [hoj] at r3; cases r3
        refine ⟨_, inN, ?_, ?_, ?_, X.h, .nil _, r4⟩
        · intro k
          show tb (Nat.lor D.S (bit D.i)) k = _
          rw [hSN, kS, hSY X0 X hXY]
          cases tb X0.S k <;> cases decide (k = j) <;> cases decide (k = D.i) <;> rfl
        · intro k hk
          have hk : tb (Nat.lor D.ins (opt (rows.get D.i) 0 id)) k = true := hk
          rw [tb_lor, Bool.or_eq_true] at hk
          rw [hXY.mI, tb_lor]
          rcases hk with hk | hk
          · rcases r1 k hk with h | h
            · exact .inl (by rw [h]; rfl)
            · exact .inr h
          · exact .inl (by rw [hk, Bool.or_true])
        · intro k hk
          rw [hXY.mI, tb_lor, Bool.or_eq_true] at hk
          show tb (Nat.lor D.ins (opt (rows.get D.i) 0 id)) k = true
          rw [tb_lor]
          rcases hk with hk | hk
          · rw [r2 k hk]; rfl
          · rw [hk, Bool.or_true]
      · obtain ⟨X', hX', s1, s2, s3, h1, s4, s5⟩ := q2 X hX ht (hen.mono hme)
        exact ⟨X', inD X' hX', s1, s2, s3, h1, s4.mono hmf, s5⟩
  · intro j
    show tb (Nat.lor D.S (bit D.i)) j = true ↔ _
    rw [hSN]
    by_cases e : j = D.i
    · subst e; rw [upd_same]; simp
    · rw [upd_other _ _ e, ← b.S j]; simp [e]
  · intro X hX j hj
    rcases memY X hX with rfl | hX | hX
    · exact subN j hj
    · obtain ⟨X0, hX0, hXY⟩ := x1 X hX
      exact subY X0 X (hold X0 hX0) hXY j hj
    · exact hme j (b.sub X hX j hj)
  · intro X hX q hq'
    rcases memY X hX with rfl | hX | hX
    · exact insN D.main _ 0 hmain hSN rfl q hq'
    · obtain ⟨X0, hX0, hXY⟩ := x1 X hX
      exact insN X0 _ 0 (hold X0 hX0) (hSY X0 X hXY) hXY.mI q hq'
    · exact b.ins X hX q hq'
  · intro X hX
    rcases List.mem_append.1 (show X ∈ xs ++ (⟨D.S, D.ins, D.h, D.nx⟩ :: D.old) from hX) with hX | hX
    · obtain ⟨X0, hX0, hXY⟩ := x1 X hX
      obtain ⟨_, _, e0, ke0, kS, kX, _⟩ := key X0 hX0 X hXY
      refine ⟨e0, hme e0 ke0, ?_⟩
      rw [hSY X0 X hXY, kX]
      simpa using hbe e0 ke0
    · rcases List.mem_cons.1 hX with rfl | hX
      · exact ⟨D.i, upd_same _ _ _, hnSi⟩
      · obtain ⟨j, j1, j2⟩ := b.old X hX
        exact ⟨j, hme j j1, j2⟩
  · intro e ide he'
    have he' : opt (tgt o.op D.tm) none (fun t => some (D.i, t)) = some (e, ide) := he'
    obtain ⟨t, ht, he'⟩ := opt_eq_some he'
    cases he'
    obtain ⟨ty, x, y, off, g1, g2⟩ := tgt_ok ht
    rw [upd_same, upd_same]
    exact ⟨rfl, o, ty, x, y, off, ho, g1, g2⟩
  · obtain ⟨X0, hX0, hz⟩ := b.first
    exact ⟨X0, inD X0 hX0, hz⟩
end
end Go.Proofs.YtoklobcagaolmaaGreatDoor.SE
end

noncomputable section
namespace Go.Proofs.YtoklobcagaolmaaGreatDoor.SE
variable {ρ : Val}

section
variable {E : Env} {ops : Array Oper} {rows : T Nat} {tm0 : T AV} {h0 : T AO} {nx0 k0 : Nat}

theorem float_mate {op : Op} {t : T AV} {id : Nat} {v : AV} {h' : T AO} {n : Nat} {O : AO} (hf : isFl op = true) (hs : stepA op E t .e id = .eff v h' n) (hg : h'.get id = some O) : O.mate? = none := by
  cases op <;> first | (cases hf; done) | skip
  case alloc ty =>
    have hs : oAlloc ty E t .e id = .eff v h' n := hs
    unfold oAlloc at hs
    obtain ⟨z, hz, hs⟩ := opt_eff hs
    cases hs
    rw [T.get_set, if_pos rfl] at hg
    cases hg; rfl
  case box ty x =>
    have hs : oBox ty x E t .e id = .eff v h' n := hs
    unfold oBox at hs
    obtain ⟨q, hq, hs⟩ := elim_eff hs
    obtain ⟨c, hc, hs⟩ := opt_eff hs
    cases hs
    rw [T.get_set, if_pos rfl] at hg
    cases hg; rfl
  case buildSlice ty m parts =>
    have hs : oBuildSlice ty m parts E t .e id = .eff v h' n := hs
    unfold oBuildSlice at hs
    split at hs
    · split at hs
      · split at hs
        · rename_i size z _ _
          cases hb : (lenIs z size && Nat.ble (Nat.mul m size) 16777216) with
          | false => rw [hb] at hs; cases hs
          | true =>
            rw [hb] at hs
            simp only [cond_true] at hs
            split at hs
            · cases hs
              rw [T.get_set, if_pos rfl] at hg
              cases hg; rfl
            · cases hs
        · cases hs
      · cases hs
    · cases hs

/-- one operation of the evaluator's run -/
theorem dOne_ok (hst : StatOk ops rows) {D : DS} {val : Nat → AV} {tmv : Nat → T AV} {kind : Nat → DK} (b : BInv E ops rows tm0 h0 nx0 k0 val tmv kind D) {o : Oper} (ho : ops[D.i]? = some o) {k : DS → R St} {r : St}
    (he : dOne rows ops E nx0 o k D = .ok r) : ∃ val' tmv' kind' D', D'.i = D.i + 1 ∧ BInv E ops rows tm0 h0 nx0 k0 val' tmv' kind' D' ∧ k D' = .ok r := by
  obtain ⟨i, t, S, ins, h, nx, old, fl, qs, lst⟩ := D
  obtain ⟨dst, op, type, pos, after, guard⟩ := o
  have hs := b.out i (Nat.le_refl _)
  have hno : ∀ id O, (i, id, O) ∉ fl := fun id O hm => by
    have := (b.fls i id O).2 hm
    rw [hs] at this; cases this
  have he : (opt (wantedA ops ⟨dst, op, type, pos, after, guard⟩ t) (R.no "guard") fun q => bif2 q
      (bif2 (isFl op)
        ((flObj op E t (Nat.add nx0 i)).elim (fun p => k ⟨Nat.add i 1, putA dst t p.1, S, ins, h, nx, old, (i, Nat.add nx0 i, p.2) :: fl, qs, lst⟩) (fun s => .no (s ++ " " ++ pos)))
        ((stepA op E t h nx).elim (dQuiet rows E dst op pos k i t S ins h nx old fl qs lst)
          (fun _ _ _ => dEff rows E dst op pos k i t S ins h nx old fl qs lst) (fun _ _ => dEff rows E dst op pos k i t S ins h nx old fl qs lst) (fun _ _ => .no "draw: defer") (fun _ _ => .no "draw: round")
          (fun _ => dEff rows E dst op pos k i t S ins h nx old fl qs lst)))
      (k ⟨Nat.add i 1, putA dst t undefA, S, ins, h, nx, old, fl, qs, lst⟩)) = .ok r := he
  obtain ⟨qw, hw, he⟩ := opt_eq_ok he
  cases qw with
  | false =>
    refine ⟨_, _, _, ⟨i + 1, putA dst t undefA, S, ins, h, nx, old, fl, qs, lst⟩, rfl, b.next hst ho (k := .skip) (v := undefA) (fun e => by cases e) rfl rfl rfl rfl rfl rfl rfl (fun q hq => hq) rfl (fun _ => ⟨hw, rfl⟩) (fun e => by cases e) (fun _ _ e => by cases e) ?_, he⟩
    intro j id O
    constructor
    · intro hm; exact .inl hm
    · rintro (hm | ⟨_, hm⟩)
      · exact hm
      · cases hm
  | true =>
    simp only [bif2_true] at he
    cases hf : isFl op with
    | true =>
      rw [hf] at he
      simp only [bif2_true] at he
      cases hfo : flObj op E t (Nat.add nx0 i) with
      | no s => rw [hfo] at he; cases he
      | ok p =>
        rw [hfo] at he
        obtain ⟨v, O⟩ := p
        have hm : O.mate? = none := by
          obtain ⟨h', n, hs1, hs2⟩ := flObj_ok hfo
          exact float_mate hf hs1 hs2
        refine ⟨_, _, _, ⟨i + 1, putA dst t v, S, ins, h, nx, old, (i, nx0 + i, O) :: fl, qs, lst⟩, rfl, b.next hst ho (k := .fl (nx0 + i) O) (v := v) (fun e => by cases e) rfl rfl rfl rfl rfl rfl rfl (fun q hq => hq) rfl (fun e => by cases e) (fun e => by cases e) ?_ ?_, he⟩
        · intro id O' e
          cases e
          exact ⟨⟨hw, hf, hfo⟩, rfl, hm⟩
        · intro j id O'
          show (j, id, O') ∈ (i, nx0 + i, O) :: fl ↔ (j, id, O') ∈ fl ∨ (j = i ∧ DK.fl (nx0 + i) O = .fl id O')
          rw [List.mem_cons]
          constructor
          · rintro (e | e)
            · cases e; exact .inr ⟨rfl, rfl⟩
            · exact .inl e
          · rintro (e | ⟨e1, e2⟩)
            · exact .inr e
            · cases e2; subst e1; exact .inl rfl
    | false =>
      rw [hf] at he
      simp only [bif2_false] at he
      -- an effect
      have eff : dEff rows E dst op pos k i t S ins h nx old fl qs lst = .ok r → ∃ val' tmv' kind' D', D'.i = i + 1 ∧ BInv E ops rows tm0 h0 nx0 k0 val' tmv' kind' D' ∧ k D' = .ok r := by
        intro he
        unfold dEff at he
        cases hq : effA op E t (insF fl (opt (rows.get i) 0 id) ins h) nx with
        | no s => rw [hq] at he; cases he
        | ok x =>
          rw [hq] at he
          obtain ⟨v, h', nx'⟩ := x
          have he : bif2 (qsOk E S ⟨Nat.lor S (bit i), Nat.lor ins (opt (rows.get i) 0 id), h', nx'⟩ qs)
              ((extras E op t i (opt (rows.get i) 0 id) S fl qs lst old).elim (fun xs =>
                k ⟨Nat.add i 1, putA dst t v, Nat.lor S (bit i), Nat.lor ins (opt (rows.get i) 0 id), h', nx', List.append xs (⟨S, ins, h, nx⟩ :: old), fl, qs, opt (tgt op t) none fun t => some (i, t)⟩) .no)
              (.no ("draw: a reading past " ++ pos)) = .ok r := he
          obtain ⟨h1, he⟩ := bif2_eq_ok he
          obtain ⟨xs, h2, he⟩ := R.elim_eq_ok he
          exact ⟨_, _, _, _, rfl, b.effect hst ho hw hq h1 h2, he⟩
      cases hstp : stepA op E t h nx with
      | eff _ _ _ => rw [hstp] at he; exact eff he
      | call _ _ => rw [hstp] at he; exact eff he
      | no _ => rw [hstp] at he; exact eff he
      | defer _ _ => rw [hstp] at he; cases he
      | round _ _ => rw [hstp] at he; cases he
      | val v =>
        rw [hstp] at he
        have he : bif2 (heapless op) (k ⟨Nat.add i 1, putA dst t v, S, ins, h, nx, old, fl, qs, lst⟩)
          (bif2 (oldsOk E S ⟨i, opt (rows.get i) 0 id, op, t, v⟩ old) (k ⟨Nat.add i 1, putA dst t v, S, ins, h, nx, old, fl, ⟨i, opt (rows.get i) 0 id, op, t, v⟩ :: qs, lst⟩) (.no ("draw: a reading " ++ pos))) = .ok r := he
        have hflq : ∀ j id O, (j, id, O) ∈ fl ↔ (j, id, O) ∈ fl ∨ (j = i ∧ DK.quiet = .fl id O) := by
          intro j id O
          constructor
          · intro hm; exact .inl hm
          · rintro (hm | ⟨_, hm⟩)
            · exact hm
            · cases hm
        cases hh : heapless op with
        | true =>
          rw [hh] at he
          have hall : ∀ h2 n2, stepA op E t h2 n2 = .val v := fun h2 n2 => by rw [heapless_ok hh E t h2 h n2 nx]; exact hstp
          exact ⟨_, _, _, ⟨i + 1, putA dst t v, S, ins, h, nx, old, fl, qs, lst⟩, rfl, b.next hst ho (k := .quiet) (v := v) (fun e => by cases e) rfl rfl rfl rfl rfl rfl rfl (fun q hq => hq) rfl (fun e => by cases e)
            (fun _ => ⟨hw, fun X _ _ => hall _ _, .inl hall⟩) (fun _ _ e => by cases e) hflq, he⟩
        | false =>
          rw [hh] at he
          simp only [bif2_false] at he
          obtain ⟨h1, he⟩ := bif2_eq_ok he
          refine ⟨_, _, _, ⟨i + 1, putA dst t v, S, ins, h, nx, old, fl, ⟨i, opt (rows.get i) 0 id, op, t, v⟩ :: qs, lst⟩, rfl, b.next hst ho (k := .quiet) (v := v) (fun e => by cases e) rfl rfl rfl rfl rfl rfl rfl (fun q hq => List.mem_cons_of_mem _ hq) rfl (fun e => by cases e)
            (fun _ => ⟨hw, ?_, .inr List.mem_cons_self⟩) (fun _ _ e => by cases e) hflq, he⟩
          intro X hX hwin
          rcases List.mem_cons.1 hX with rfl | hX'
          · exact hstp
          · have hme : ∀ j, kind j = .eff → upd kind i .quiet j = .eff := fun j hj => by
              rw [upd_other _ _ (fun e => by subst e; rw [hs] at hj; cases hj)]; exact hj
            exact qOk_ok hst (oldsOk_ok h1 X hX') (fun k hk => hme k ((b.S k).1 hk)) (b.ins X hX) (fun k hk => hme k (b.sub X hX k hk)) hwin

/-- the evaluator's run, to its end -/
theorem drawGo_ok (hst : StatOk ops rows) {df : List ADef} {r : St} : ∀ (l : List Oper) (D : DS) (val : Nat → AV) (tmv : Nat → T AV) (kind : Nat → DK), ops.toList.drop D.i = l →
    BInv E ops rows tm0 h0 nx0 k0 val tmv kind D → drawGo rows ops E df nx0 l D = .ok r →
    ∃ val' tmv' kind' D', D'.i = D.i + l.length ∧ BInv E ops rows tm0 h0 nx0 k0 val' tmv' kind' D' ∧ dEnd df D' = .ok r
  | [], D, val, tmv, kind, hl, b, he => ⟨val, tmv, kind, D, rfl, b, he⟩
  | o :: l, D, val, tmv, kind, hl, b, he => by
    obtain ⟨h1, h2⟩ := drop_cons hl
    have ho : ops[D.i]? = some o := by simpa using h1
    have he : dOne rows ops E nx0 o (drawGo rows ops E df nx0 l) D = .ok r := he
    obtain ⟨val', tmv', kind', D', e1, b', he'⟩ := dOne_ok hst b ho he
    obtain ⟨v2, t2, k2, D2, f1, f2, f3⟩ := drawGo_ok hst l D' val' tmv' kind' (by rw [e1]; exact h2) b' he'
    exact ⟨v2, t2, k2, D2, by rw [f1, e1, List.length_cons]; omega, f2, f3⟩
end
end Go.Proofs.YtoklobcagaolmaaGreatDoor.SE
end

noncomputable section
namespace Go.Proofs.YtoklobcagaolmaaGreatDoor.SE
variable {ρ : Val}

theorem hasFl_of : ∀ {l : List Oper} {o : Oper}, o ∈ l → isFl o.op = true → hasFl l = true
  | [], _, h, _ => by cases h
  | x :: l, o, h, hf => by
    show bif2 (isFl x.op) true (hasFl l) = true
    rcases List.mem_cons.1 h with rfl | h
    · rw [hf]; rfl
    · cases isFl x.op with
      | true => rfl
      | false => exact hasFl_of h hf
theorem tb_full (n j : Nat) : tb (Nat.sub (bit n) 1) j = decide (j < n) := by
  rw [tb_eq]
  show Nat.testBit ((1 <<< n) - 1) j = _
  rw [Nat.shiftLeft_eq, Nat.one_mul, Nat.testBit_two_pow_sub_one]

/-- A REGION THAT DRAWS ITS ORDER: what its run says -/
theorem runDraw_ok {E : Env} (hE : EnvOk E ρ) {B : Base} {nt : Nat} {ops : Array Oper} (hops : OpsOk E.P.P nt ops.toList) {ro : Option Nat} {m : Nat} {id : Nat} {s r : St} {a : Act} {w : World}
    (hr : runDraw ops E s = .ok r) (hg : Good E ρ B nt s a w) : (Code.region id ops true).wpIn (W ro) m E.P.P (fun e a w => e = .normal ∧ Good E ρ B nt r a w) a w := by
  unfold runDraw at hr
  obtain ⟨rows, hrows, hr⟩ := opt_eq_ok hr
  have hst := statA_ok hrows
  obtain ⟨tm0, df, h0, nx0⟩ := s
  have hr : drawGo rows ops E df nx0 ops.toList ⟨0, tm0, 0, 0, h0, Nat.add nx0 (bif2 (hasFl ops.toList) ops.size 0), [], [], [], none⟩ = .ok r := hr
  have b0 : BInv E ops rows tm0 h0 nx0 (Nat.add nx0 (bif2 (hasFl ops.toList) ops.size 0)) (fun _ => undefA) (fun _ => tm0) (fun _ => .skip)
      ⟨0, tm0, 0, 0, h0, Nat.add nx0 (bif2 (hasFl ops.toList) ops.size 0), [], [], [], none⟩ := by
    refine ⟨fun _ _ => rfl, ⟨fun j _ _ _ _ h => absurd h (Nat.not_lt_zero j), fun _ _ => rfl⟩, fun j h => absurd h (Nat.not_lt_zero j), fun j _ h => absurd h (Nat.not_lt_zero j), (fun _ _ _ h => by cases h), (fun _ _ _ h => by cases h),
      (fun _ _ _ _ _ h => by cases h), (fun _ _ _ h => by cases h), ?_, (fun _ _ _ h => by cases h), ?_, ?_, ?_, (fun X hX => by cases hX), (fun _ _ h => by cases h), ⟨_, List.mem_singleton.2 rfl, rfl, rfl, rfl, rfl⟩⟩
    · intro j id O
      constructor
      · intro h; cases h
      · intro h; cases h
    · intro j
      show tb 0 j = true ↔ _
      rw [tb_zero]
      constructor
      · intro h; cases h
      · intro h; cases h
    · intro X hX j hj
      rw [show X = _ from List.mem_singleton.1 hX] at hj
      have hj : tb 0 j = true := hj
      rw [tb_zero] at hj; cases hj
    · intro X hX j hj
      rw [show X = _ from List.mem_singleton.1 hX] at hj
      have hj : tb 0 j = true := hj
      rw [tb_zero] at hj; cases hj
  obtain ⟨val, tmv, kind, D, hDi, b, he⟩ := drawGo_ok hst ops.toList _ _ _ _ (by rfl) b0 hr
  have hDi : D.i = ops.size := by simpa using hDi
  have he : R.ok (St.mk D.tm df (insF D.fl (Nat.sub (bit D.i) 1) D.ins D.h) D.nx) = .ok r := he
  injection he with he
  subst he
  have hks : ∀ i, kind i ≠ .skip → i < ops.size := fun i hk => by
    rcases Nat.lt_or_ge i ops.size with h | h
    · exact h
    · exact absurd (b.out i (by omega)) hk
  have hof : ∀ i, i < ops.size → ∃ o, ops[i]? = some o := fun i hi => ⟨_, Array.getElem?_eq_getElem hi⟩
  have hP : Plan E ops tm0 nx0 val (fun i => if i < ops.size then tmv i else D.tm) kind D.ents D.main (insF D.fl (Nat.sub (bit D.i) 1) D.ins D.h) := by
    have hpos : ∀ {i : Nat} {o : Oper}, ops[i]? = some o → (if i < ops.size then tmv i else D.tm) = tmv i := fun {i} {o} ho => if_pos (Array.getElem?_eq_some_iff.1 ho).1
    refine ⟨?_, ?_, ?_, ?_, b.flid, ?_, ?_, ?_⟩
    · intro i
      by_cases hi : i < ops.size
      · simp only [hi, if_true]
        exact b.tms i (by omega)
      · simp only [hi, if_false]
        have := b.tm
        refine ⟨fun j o t hj ht _ => this.done j o t hj ht (by have := (Array.getElem?_eq_some_iff.1 hj).1; show j < D.i; omega), fun t hn => this.rest t fun j o hj ht _ => hn j o hj ht ?_⟩
        have := (Array.getElem?_eq_some_iff.1 hj).1
        omega
    · intro i o ho hk
      rw [hpos ho]
      exact b.skip i o (by have := (Array.getElem?_eq_some_iff.1 ho).1; omega) ho hk
    · intro i o ho hk
      rw [hpos ho]
      exact b.quiet i o ho hk
    · intro i o id O ho hk
      rw [hpos ho]
      exact b.float i o id O ho hk
    · intro i o ho hk
      rw [hpos ho]
      exact b.eff i o ho hk
    · intro X hX hall
      rcases List.mem_cons.1 hX with h | h
      · exact h
      · obtain ⟨j, j1, j2⟩ := b.old X h
        rw [hall j j1 (hks j (by rw [j1]; intro e; cases e))] at j2
        cases j2
    · refine ⟨Nat.sub (bit D.i) 1, fun j hj => ?_, insF_ok (fun j hj => hj) fun f hf => (b.fls f.1 f.2.1 f.2.2).2 hf⟩
      rw [tb_full, hDi] at hj
      simpa using hj
  obtain ⟨X0, hX0, z1, z2, z3, z4⟩ := b.first
  have := draw_ok (ro := ro) (m := m) (s := ⟨tm0, df, h0, nx0⟩) (B := B) (nt := nt) (id := id) (a := a) (w := w) hE hops hst hP hE.mixed hX0 z1 z2 z3 (by rw [z4]; exact Nat.le_add_right _ _) (by
    intro i fid O hk
    have hi := hks i (by rw [hk]; intro e; cases e)
    obtain ⟨o, ho⟩ := hof i hi
    have hf := (b.float i o fid O ho hk).2.1
    have hmem : o ∈ ops.toList := List.mem_of_getElem? (i := i) (by simpa using ho)
    rw [(b.flid i fid O hk).1, z4, hasFl_of hmem hf]
    show nx0 + i < nx0 + ops.size
    omega) hg
  simp only [Nat.lt_irrefl, if_false] at this
  exact this
end Go.Proofs.YtoklobcagaolmaaGreatDoor.SE
end
