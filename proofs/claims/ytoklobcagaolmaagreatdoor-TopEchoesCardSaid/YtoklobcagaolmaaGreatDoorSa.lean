/- SOUNDNESS, part 1: the relation between abstract and concrete states; whole numbers, texts, reading and writing memory. No condition. -/
import Derived.Test.YtoklobcagaolmaaGreatDoorEa
import Derived.Laws.Sem
import Derived.Laws.Cells
import GoSem.Extern.BytealgIndexByte
import GoSem.Extern.BytealgCount
import Derived.Laws.StructEq
import Derived.WideShapes
import Derived.Test.YtoklobcagaolmaaGreatDoorEb
import Derived.Laws.Entries
import Derived.ChangeKeysEq

noncomputable section
namespace Go.Proofs.YtoklobcagaolmaaGreatDoor.SE

/-! ## what stands for what -/
structure Loc where
  blk : Nat
  sh : Nat
  sz : Nat
abbrev Io := Nat → Option Loc
abbrev Val := Nat → Int

def termsEval (ρ : Val) : List (Nat × Int) → Int
  | [] => 0
  | (i, a) :: r => a * ρ i + termsEval ρ r
def Lin.eval (ρ : Val) (e : Lin) : Int := e.c + termsEval ρ e.ts

/-- a sign's byte -/
def chVal (ρ : Val) (c : Nat) : Int := if c < 256 then (c : Int) else ρ (c - 256)
def Dg (ρ : Val) : Nat → Nat → List UInt8 → Prop
  | 0, num, [] => num = 0
  | n + 1, num, b :: r => (b.toNat : Int) = chVal ρ (num % 65536) ∧ Dg ρ n (num / 65536) r
  | _, _, _ => False
def SR (ρ : Val) (len num : Nat) (s : ByteArray) : Prop := Dg ρ len num s.data.toList

mutual
inductive VR (ρ : Val) (ι : Io) : AV → Value → Prop
  | bool (b : Bool) : VR ρ ι (.bool b) (.bool b)
  | int (k : IntKind) (n : Int) : VR ρ ι (.int k n) (.int k n)
  | sym (k : IntKind) (e : Lin) : VR ρ ι (.sym k e) (.int k (e.eval ρ))
  | flt (k : FloatKind) (b : Nat) : VR ρ ι (.flt k b) (.float k b)
  | str (len num : Nat) (s : ByteArray) (h : SR ρ len num s) : VR ρ ι (.str len num) (.string s)
  | nilptr : VR ρ ι .nilptr (.pointer none)
  | ptr (id off : Nat) (l : Loc) (h : ι id = some l) : VR ρ ι (.ptr id off) (.pointer (some ⟨l.blk, l.sh + off, none⟩))
  | nilsl : VR ρ ι .nilsl (.slice none 0 0)
  | slx (id off len c : Nat) (l : Loc) (h : ι id = some l) : VR ρ ι (.sl id off len (.ex c)) (.slice (some ⟨l.blk, l.sh + off, none⟩) len c)
  | slg (id off len z c : Nat) (l : Loc) (h : ι id = some l) (hc : len ≤ c) (hb : l.sh + off + c * z ≤ l.sz) : VR ρ ι (.sl id off len (.gr z)) (.slice (some ⟨l.blk, l.sh + off, none⟩) len c)
  | slo (id off z : Nat) (a : Addr) : VR ρ ι (.sl id off 0 (.gr z)) (.slice (some a) 0 0)
  | nilmap : VR ρ ι .nilmap (.map none)
  | map (id : Nat) (l : Loc) (h : ι id = some l) : VR ρ ι (.map id) (.map (some l.blk))
  | func (f : FuncId) (a b : List AV) (a' b' : Array Value) (ha : VRs ρ ι a a'.toList) (hb : VRs ρ ι b b'.toList) : VR ρ ι (.func f a b) (.func (.func f) a' b')
  | nilfunc : VR ρ ι .nilfunc .nilFunc
  | iface (t : TypeId) (v : AV) (v' : Value) (h : VR ρ ι v v') : VR ρ ι (.iface t v) (.iface t v')
  | niliface : VR ρ ι .niliface .nilIface
  | agg (l : List AV) (cs : Array Value) (h : VRs ρ ι l cs.toList) (h1 : ∀ v ∈ cs.toList, v.oneCell' = true) : VR ρ ι (.agg l) (.agg cs)
  | tup (l : List AV) (cs : Array Value) (h : VRs ρ ι l cs.toList) : VR ρ ι (.tup l) (.tuple cs)
  | yld (id : Nat) (l : Loc) (h : ι id = some l) : VR ρ ι (.yld id) (.func (.yield l.blk) #[] #[])
  | unk (k : IntKind) (n : Int) : VR ρ ι (.unk k) (.int k n)
inductive VRs (ρ : Val) (ι : Io) : List AV → List Value → Prop
  | nil : VRs ρ ι [] []
  | cons (a : AV) (l : List AV) (v : Value) (r : List Value) (h : VR ρ ι a v) (hs : VRs ρ ι l r) : VRs ρ ι (a :: l) (v :: r)
end

/-- one naming reaches as far as another -/
def Io.le (ι ι' : Io) : Prop := ∀ i l, ι i = some l → ι' i = some l
theorem Io.le_refl (ι : Io) : ι.le ι := fun _ _ h => h
theorem Io.le_trans {a b c : Io} (h : a.le b) (h' : b.le c) : a.le c := fun i l e => h' i l (h i l e)

mutual
theorem VR.mono {ρ : Val} {ι ι' : Io} (hi : ι.le ι') : ∀ {a : AV} {v : Value}, VR ρ ι a v → VR ρ ι' a v
  | _, _, .bool b => .bool b
  | _, _, .int k n => .int k n
  | _, _, .sym k e => .sym k e
  | _, _, .flt k b => .flt k b
  | _, _, .str len num s h => .str len num s h
  | _, _, .nilptr => .nilptr
  | _, _, .ptr id off l h => .ptr id off l (hi _ _ h)
  | _, _, .nilsl => .nilsl
  | _, _, .slx id off len c l h => .slx id off len c l (hi _ _ h)
  | _, _, .slg id off len z c l h hc hb => .slg id off len z c l (hi _ _ h) hc hb
  | _, _, .slo id off z a => .slo id off z a
  | _, _, .nilmap => .nilmap
  | _, _, .map id l h => .map id l (hi _ _ h)
  | _, _, .func f a b a' b' ha hb => .func f a b a' b' (VRs.mono hi ha) (VRs.mono hi hb)
  | _, _, .nilfunc => .nilfunc
  | _, _, .iface t v v' h => .iface t v v' (VR.mono hi h)
  | _, _, .niliface => .niliface
  | _, _, .agg l cs h h1 => .agg l cs (VRs.mono hi h) h1
  | _, _, .tup l cs h => .tup l cs (VRs.mono hi h)
  | _, _, .yld id l h => .yld id l (hi _ _ h)
  | _, _, .unk k n => .unk k n
theorem VRs.mono {ρ : Val} {ι ι' : Io} (hi : ι.le ι') : ∀ {a : List AV} {v : List Value}, VRs ρ ι a v → VRs ρ ι' a v
  | _, _, .nil => .nil
  | _, _, .cons a l v r h hs => .cons a l v r (VR.mono hi h) (VRs.mono hi hs)
end

section lists
variable {ρ : Val} {ι : Io}
theorem VRs.length {l : List AV} {r : List Value} (h : VRs ρ ι l r) : l.length = r.length := by
  induction l generalizing r with
  | nil => cases h; rfl
  | cons a l ih => cases h with | cons _ _ v r h hs => simp [ih hs]
theorem VRs.get {l : List AV} {r : List Value} (h : VRs ρ ι l r) (i : Nat) (a : AV) (ha : l[i]? = some a) : ∃ v, r[i]? = some v ∧ VR ρ ι a v := by
  induction l generalizing r i with
  | nil => simp at ha
  | cons b l ih =>
    cases h with
    | cons _ _ v r h hs =>
      cases i with
      | zero => simp at ha; subst ha; exact ⟨v, rfl, h⟩
      | succ i => simp at ha; exact ih hs i ha
theorem VRs.of_get {l : List AV} {r : List Value} (hl : l.length = r.length) (h : ∀ (i : Nat) a v, l[i]? = some a → r[i]? = some v → VR ρ ι a v) : VRs ρ ι l r := by
  induction l generalizing r with
  | nil => cases r with
    | nil => exact .nil
    | cons v r => simp at hl
  | cons a l ih =>
    cases r with
    | nil => simp at hl
    | cons v r =>
      exact .cons a l v r (h 0 a v rfl rfl) (ih (by simpa using hl) fun i a' v' h1 h2 => h (i + 1) a' v' (by simpa using h1) (by simpa using h2))
theorem VRs.append {l l' : List AV} {r r' : List Value} (h : VRs ρ ι l r) (h' : VRs ρ ι l' r') : VRs ρ ι (l ++ l') (r ++ r') := by
  induction l generalizing r with
  | nil => cases h; exact h'
  | cons a l ih => cases h with | cons _ _ v r h hs => exact .cons a _ v _ h (ih hs)
theorem VRs.take {l : List AV} {r : List Value} (h : VRs ρ ι l r) (n : Nat) : VRs ρ ι (l.take n) (r.take n) := by
  induction l generalizing r n with
  | nil => cases h; simp; exact .nil
  | cons a l ih =>
    cases h with
    | cons _ _ v r h hs =>
      cases n with
      | zero => exact .nil
      | succ n => exact .cons a _ v _ h (ih hs n)
theorem VRs.drop {l : List AV} {r : List Value} (h : VRs ρ ι l r) (n : Nat) : VRs ρ ι (l.drop n) (r.drop n) := by
  induction l generalizing r n with
  | nil => cases h; simp; exact .nil
  | cons a l ih =>
    cases h with
    | cons _ _ v r h hs =>
      cases n with
      | zero => exact .cons a _ v _ h hs
      | succ n => exact ih hs n
end lists

/-! ## memory -/
/-- nothing of a block is frozen (of bytes that came of a text the mark lies behind them) -/
def FrozenFree (fz : Nat × Nat) (sz : Nat) : Prop := fz = (0, 0) ∨ fz = (sz, sz + 1)
theorem FrozenFree.free {fz : Nat × Nat} {sz : Nat} (h : FrozenFree fz sz) {o : Nat} (ho : o < sz) : (decide (fz.1 ≤ o) && decide (o < fz.2)) = false := by
  rcases h with h | h <;> subst h <;> simp <;> omega
structure CellsR (ρ : Val) (ι : Io) (w : World) (l : Loc) (elem : TypeId) (mem : List AV) (ex wr : Bool) : Prop where
  mk ::
  cells : ∃ cs fz, w.heap[l.blk]? = some (.cells cs elem fz) ∧ cs.size = l.sz ∧ l.sh + mem.length ≤ l.sz ∧ (ex = true → l.sh = 0 ∧ mem.length = l.sz) ∧
    (wr = true → FrozenFree fz l.sz ∧ (ex = true → fz = (0, 0))) ∧ ∀ i a, mem[i]? = some a → ∃ v, cs[l.sh + i]? = some v ∧ VR ρ ι a v ∧ v.oneCell' = true
def EntryR (ρ : Val) (ι : Io) (e : AV × AV × Nat) (m : MapEntry) : Prop := VR ρ ι e.1 m.key ∧ VR ρ ι e.2.1 m.val ∧ e.2.2 = m.born
inductive EntriesR (ρ : Val) (ι : Io) : List (AV × AV × Nat) → List MapEntry → Prop
  | nil : EntriesR ρ ι [] []
  | cons (e : AV × AV × Nat) (es : List (AV × AV × Nat)) (m : MapEntry) (ms : List MapEntry) (h : EntryR ρ ι e m) (hs : EntriesR ρ ι es ms) : EntriesR ρ ι (e :: es) (m :: ms)
/-- a loop's record: its state -/
def loopSt : Nat → LoopState
  | 0 => .ready
  | 1 => .busy
  | _ => .exhausted
/-- temporaries -/
def TmR (ρ : Val) (ι : Io) (tm : T AV) (tmps : Array Value) : Prop := ∀ t x, T.getW (wayOf t) tm = some x → VR ρ ι x (tmps.getD t undef)
/-- operands, operations, code of a program: they name its variables alone; temporaries that are written are below a number -/
def OperandOk (P : Program) (o : Operand) : Prop := ∀ g, o = .global g → g < P.globals.size
def OperOk (P : Program) (o : Oper) : Prop := ∀ x ∈ o.op.operands.toList, OperandOk P x
def OpsOk (P : Program) (nt : Nat) (l : List Oper) : Prop := ∀ o ∈ l, OperOk P o ∧ ∀ d, o.dst = some d → d < nt
def CodeOk (P : Program) (nt : Nat) : Code → Prop
  | .region _ ops _ => OpsOk P nt ops.toList
  | .seq a b => CodeOk P nt a ∧ CodeOk P nt b
  | .cond c a b => OperandOk P c ∧ CodeOk P nt a ∧ CodeOk P nt b
  | .block _ b => CodeOk P nt b
  | .loop b => CodeOk P nt b
  | .scope b => CodeOk P nt b
  | .rangeFunc f ps a b => OperandOk P f ∧ (∀ p ∈ ps.toList, p < nt) ∧ CodeOk P nt a ∧ CodeOk P nt b
  | _ => True
def ObjR (P : Program) (ρ : Val) (ι : Io) (w : World) (l : Loc) : AO → Prop
  | .cells elem mem ex wr _ => CellsR ρ ι w l elem mem ex wr
  | .map es clock => l.sh = 0 ∧ ∃ ms : Array MapEntry, w.heap[l.blk]? = some (.map ms clock) ∧ EntriesR ρ ι es ms.toList
  | .loop st tm ps asg body d => l.sh = 0 ∧ ∃ (tmps : Array Value) (fn : FuncId) (dl : Loc) (nt : Nat), ι d = some dl ∧ TmR ρ ι tm tmps ∧ nt ≤ tmps.size ∧ (∀ p ∈ ps, p < nt) ∧ CodeOk P nt asg ∧ CodeOk P nt body ∧
      w.heap[l.blk]? = some (.loop { state := loopSt st, pending := none, fn := fn, tmps := tmps, params := ps.toArray, assign := asg, body := body, defers := dl.blk })
  | .dfs full => l.sh = 0 ∧ w.heap[l.blk]? = some (.deferred (if full then some [] else none))
  | .siter len num pos => l.sh = 0 ∧ ∃ s : ByteArray, SR ρ len num s ∧ w.heap[l.blk]? = some (.stringIter s pos)
def AO.mate? : AO → Option Nat
  | .cells _ _ _ _ m => m
  | _ => none
structure HR (ρ : Val) (P : Program) (ι : Io) (nx : Nat) (h : T AO) (w : World) : Prop where
  obj : ∀ id o, h.get id = some o → ∃ l, ι id = some l ∧ ObjR P ρ ι w l o
  apart : ∀ i j oi oj li lj, i ≠ j → h.get i = some oi → h.get j = some oj → ι i = some li → ι j = some lj → li.blk = lj.blk → oi.mate? = some j ∧ oj.mate? = some i
  fresh : ∀ id l, ι id = some l → id < nx
  glob : ∀ g, g < P.globals.size → ∃ sz, ι g = some ⟨g, 0, sz⟩
/-- a block that no object stands for -/
def Free (ι : Io) (h : T AO) (b : Nat) : Prop := ∀ id o l, h.get id = some o → ι id = some l → l.blk ≠ b
/-- from one world on to another -/
structure Nxt (ι : Io) (h : T AO) (w : World) (nx : Nat) (ι' : Io) (h' : T AO) (w' : World) (nx' : Nat) : Prop where
  le : ι.le ι'
  nxle : nx ≤ nx'
  new : ∀ i l, ι' i = some l → ι i = none → nx ≤ i
  size : w.heap.size ≤ w'.heap.size
  frame : ∀ b, b < w.heap.size → Free ι h b → w'.heap[b]? = w.heap[b]? ∧ Free ι' h' b
  same : w'.os = w.os ∧ w'.output = w.output ∧ w'.tape = w.tape
theorem Nxt.refl (ι : Io) (h : T AO) (w : World) (nx : Nat) : Nxt ι h w nx ι h w nx :=
  ⟨Io.le_refl ι, Nat.le_refl _, fun i l e e' => (by rw [e] at e'; cases e'), Nat.le_refl _, fun _ _ hf => ⟨rfl, hf⟩, rfl, rfl, rfl⟩
theorem Nxt.trans {ι1 ι2 ι3 : Io} {h1 h2 h3 : T AO} {w1 w2 w3 : World} {n1 n2 n3 : Nat} (a : Nxt ι1 h1 w1 n1 ι2 h2 w2 n2) (b : Nxt ι2 h2 w2 n2 ι3 h3 w3 n3) :
    Nxt ι1 h1 w1 n1 ι3 h3 w3 n3 where
  le := Io.le_trans a.le b.le
  nxle := Nat.le_trans a.nxle b.nxle
  new := fun i l e e' => by
    cases h : ι2 i with
    | none => exact Nat.le_trans a.nxle (b.new i l e h)
    | some l' => exact a.new i l' h e'
  size := Nat.le_trans a.size b.size
  frame := fun x hx hf => by
    obtain ⟨e1, f1⟩ := a.frame x hx hf
    obtain ⟨e2, f2⟩ := b.frame x (Nat.lt_of_lt_of_le hx a.size) f1
    exact ⟨e2.trans e1, f2⟩
  same := ⟨b.same.1.trans a.same.1, b.same.2.1.trans a.same.2.1, b.same.2.2.trans a.same.2.2⟩
end Go.Proofs.YtoklobcagaolmaaGreatDoor.SE
end

noncomputable section
namespace Go.Proofs.YtoklobcagaolmaaGreatDoor.SE

variable {P : Program} {ρ : Val}

def setBlk (w : World) (b : Nat) (o : Obj) : World := { w with heap := w.heap.setIfInBounds b o }
theorem setBlk_get (w : World) (b : Nat) (o : Obj) (i : Nat) : (setBlk w b o).heap[i]? = if b = i ∧ i < w.heap.size then some o else w.heap[i]? := by
  unfold setBlk
  simp only [Array.getElem?_setIfInBounds]
  by_cases h : b = i
  · subst h
    by_cases h2 : b < w.heap.size
    · simp [h2]
    · simp [h2]
  · simp [h]
theorem setBlk_size (w : World) (b : Nat) (o : Obj) : (setBlk w b o).heap.size = w.heap.size := by simp [setBlk]
theorem setBlk_setBlk (w : World) (b : Nat) (o o' : Obj) : setBlk (setBlk w b o) b o' = setBlk w b o' := by
  unfold setBlk
  simp only
  congr 1
  apply Array.ext_getElem?
  intro i
  simp only [Array.getElem?_setIfInBounds, Array.size_setIfInBounds]
  by_cases h : b = i
  · subst h; by_cases h2 : b < w.heap.size <;> simp [h2]
  · simp [h]
theorem heap_lt {w : World} {b : Nat} {o : Obj} (h : w.heap[b]? = some o) : b < w.heap.size := by
  rcases Nat.lt_or_ge b w.heap.size with h' | h'
  · exact h'
  · simp [Array.getElem?_eq_none h'] at h
theorem setBlk_self {w : World} {b : Nat} {o : Obj} (h : w.heap[b]? = some o) : setBlk w b o = w := by
  unfold setBlk
  have : w.heap.setIfInBounds b o = w.heap := by
    apply Array.ext_getElem?
    intro i
    rw [Array.getElem?_setIfInBounds]
    by_cases hb : b = i
    · subst hb; have := heap_lt h; rw [h]; simp [this]
    · simp [hb]
  rw [this]

theorem cell?_of {w : World} {b : Nat} {cs : Array Value} {e : TypeId} {fz : Nat × Nat} (h : w.heap[b]? = some (.cells cs e fz)) (o : Nat) :
    w.cell? ⟨b, o, none⟩ = cs[o]? := by simp [World.cell?, h]
theorem frozen?_of {w : World} {b : Nat} {cs : Array Value} {e : TypeId} {fz : Nat × Nat} (h : w.heap[b]? = some (.cells cs e fz)) (o : Nat) :
    w.frozen? ⟨b, o, none⟩ = (decide (fz.1 ≤ o) && decide (o < fz.2)) := by
  obtain ⟨lo, hi⟩ := fz
  simp [World.frozen?, h]
theorem setCell_blk {w : World} {b : Nat} {cs : Array Value} {e : TypeId} {fz : Nat × Nat} (h : w.heap[b]? = some (.cells cs e fz)) (o : Nat) (v : Value) :
    w.setCell ⟨b, o, none⟩ v = setBlk w b (.cells (cs.setIfInBounds o v) e fz) := by
  unfold World.setCell setBlk
  congr 1
  apply Array.ext_getElem?
  intro i
  simp only [Array.getElem?_modify, Array.getElem?_setIfInBounds]
  by_cases hb : b = i
  · subst hb
    have := heap_lt h
    rw [h]; simp [this]
  · simp [hb]

theorem addr_add (b o : Nat) (n : Nat) : Addr.add ⟨b, o, none⟩ n = ⟨b, o + n, none⟩ := by
  unfold Addr.add
  by_cases h : n = 0
  · simp [h]
  · simp [h]

/-- cells, read -/
theorem run_loadCells_at {w : World} {b o : Nat} {cs : Array Value} {e : TypeId} {fz : Nat × Nat} (h : w.heap[b]? = some (.cells cs e fz)) (n : Nat) (vs : List Value)
    (hv : vs.length = n) (hg : ∀ j v, vs[j]? = some v → cs[o + j]? = some v) : (loadCells ⟨b, o, none⟩ n).run P w = .ok vs.toArray w := by
  subst hv
  apply run_loadCells_list
  intro j v hj
  rw [addr_add, cell?_of h]
  exact hg j v hj

/-- a row's cells behind a writing -/
def Written (cs cs' : Array Value) (o : Nat) (vs : List Value) : Prop :=
  cs'.size = cs.size ∧ ∀ i, cs'[i]? = if o ≤ i ∧ i < o + vs.length then vs[i - o]? else cs[i]?

theorem run_storeCells_blk (b : Nat) (e : TypeId) (fz : Nat × Nat) (o : Nat) : ∀ (vs : List Value) (i : Nat) (cs : Array Value) (w : World),
    w.heap[b]? = some (.cells cs e fz) → o + i + vs.length ≤ cs.size → FrozenFree fz cs.size → (∀ v ∈ vs, v.oneCell' = true) →
    ∃ cs', (storeCells ⟨b, o, none⟩ vs i).run P w = .ok () (setBlk w b (.cells cs' e fz)) ∧ Written cs cs' (o + i) vs
  | [], i, cs, w, hb, _, _, _ => ⟨cs, by rw [setBlk_self hb]; rfl, rfl, fun j => by simp; omega⟩
  | v :: vs, i, cs, w, hb, hl, hf, h1 => by
    simp only [List.length_cons] at hl
    have ho : o + i < cs.size := by omega
    have hst : (store (Addr.add ⟨b, o, none⟩ i) v).run P w = .ok () (setBlk w b (.cells (cs.setIfInBounds (o + i) v) e fz)) := by
      rw [run_store P w _ v _ (h1 v (by simp)), addr_add, cell?_of hb, frozen?_of hb]
      have : (decide (fz.1 ≤ o + i) && decide (o + i < fz.2)) = false := by
        exact hf.free ho
      simp [ho, this, setCell_blk hb]
    have hb' : (setBlk w b (.cells (cs.setIfInBounds (o + i) v) e fz)).heap[b]? = some (.cells (cs.setIfInBounds (o + i) v) e fz) := by
      rw [setBlk_get]; simp [heap_lt hb]
    obtain ⟨cs', hr, hw1, hw2⟩ := run_storeCells_blk b e fz o vs (i + 1) _ _ hb' (by simp; omega) (by simpa using hf) (fun x hx => h1 x (by simp [hx]))
    refine ⟨cs', ?_, by simpa using hw1, ?_⟩
    · simp only [storeCells, Sem.run_bind, hst, Result.andThen_ok, hr, setBlk_setBlk]
    · intro j
      rw [hw2 j]
      by_cases hj : j = o + i
      · subst hj
        rw [if_neg (by omega), if_pos ⟨by omega, by simp⟩]
        simp [ho]
      · by_cases hin : o + (i + 1) ≤ j ∧ j < o + (i + 1) + vs.length
        · rw [if_pos hin, if_pos ⟨by omega, by simp only [List.length_cons]; omega⟩]
          have : j - (o + i) = (j - (o + (i + 1))) + 1 := by omega
          rw [this, List.getElem?_cons_succ]
        · rw [if_neg hin, if_neg (by simp only [List.length_cons]; omega)]
          simp only [Array.getElem?_setIfInBounds]
          rw [if_neg (by omega)]

/-! ## objects go from one world to another -/
theorem EntriesR.mono {ι ι' : Io} (hi : ι.le ι') : ∀ {es : List (AV × AV × Nat)} {ms : List MapEntry}, EntriesR ρ ι es ms → EntriesR ρ ι' es ms := by
  intro es
  induction es with
  | nil => intro ms h; cases h; exact .nil
  | cons e es ih => intro ms h; cases h with | cons _ _ m ms h hs => exact .cons e es m ms ⟨h.1.mono hi, h.2.1.mono hi, h.2.2⟩ (ih hs)
theorem ObjR.mono {ι ι' : Io} {w w' : World} {l : Loc} {o : AO} (hi : ι.le ι') (hw : w'.heap[l.blk]? = w.heap[l.blk]?) (h : ObjR P ρ ι w l o) : ObjR P ρ ι' w' l o := by
  cases o with
  | cells elem mem ex wr mate =>
    obtain ⟨cs, fz, h1, h2, h3, h4, h5, h6⟩ := h.cells
    exact ⟨cs, fz, hw.trans h1, h2, h3, h4, h5, fun i a ha => let ⟨v, hv, hr, h1⟩ := h6 i a ha; ⟨v, hv, hr.mono hi, h1⟩⟩
  | map es clock =>
    obtain ⟨h0, ms, h1, h2⟩ := h
    exact ⟨h0, ms, hw.trans h1, h2.mono hi⟩
  | loop st tm ps asg body d =>
    obtain ⟨h0, tmps, fn, dl, nt, h1, h2, h3, h4, h5, h6, h7⟩ := h
    exact ⟨h0, tmps, fn, dl, nt, hi _ _ h1, fun t x hx => (h2 t x hx).mono hi, h3, h4, h5, h6, hw.trans h7⟩
  | dfs full => exact ⟨h.1, hw.trans h.2⟩
  | siter len num pos =>
    obtain ⟨h0, s, h1, h2⟩ := h
    exact ⟨h0, s, h1, hw.trans h2⟩
theorem ObjR.blk_lt {ι : Io} {w : World} {l : Loc} {o : AO} (h : ObjR P ρ ι w l o) : l.blk < w.heap.size := by
  cases o with
  | cells elem mem ex wr mate => obtain ⟨cs, fz, h1, _⟩ := h.cells; exact heap_lt h1
  | map es clock => obtain ⟨_, ms, h1, _⟩ := h; exact heap_lt h1
  | loop st tm ps asg body d => obtain ⟨_, _, _, _, _, _, _, _, _, _, _, h1⟩ := h; exact heap_lt h1
  | dfs full => exact heap_lt h.2
  | siter len num pos => obtain ⟨_, _, _, h1⟩ := h; exact heap_lt h1

/-- a new block for a new number -/
def Io.put (ι : Io) (id : Nat) (l : Loc) : Io := fun i => if i = id then some l else ι i
theorem Io.put_same (ι : Io) (id : Nat) (l : Loc) : ι.put id l id = some l := by simp [Io.put]
theorem Io.put_other (ι : Io) (id : Nat) (l : Loc) {i : Nat} (h : i ≠ id) : ι.put id l i = ι i := by simp [Io.put, h]
theorem Io.le_put {ι : Io} {id : Nat} (l : Loc) (h : ι id = none) : ι.le (ι.put id l) := by
  intro i l' hi
  by_cases e : i = id
  · subst e; rw [h] at hi; cases hi
  · rw [Io.put_other _ _ _ e]; exact hi

theorem push_get (w : World) (o : Obj) (i : Nat) : (w.heap.push o)[i]? = if i = w.heap.size then some o else w.heap[i]? := by
  rw [Array.getElem?_push]

theorem HR.none_of_ge {ι : Io} {nx : Nat} {h : T AO} {w : World} (hr : HR ρ P ι nx h w) {i : Nat} (hi : nx ≤ i) : ι i = none := by
  cases hc : ι i with
  | none => rfl
  | some l => have := hr.fresh i l hc; omega
theorem HR.get_none {ι : Io} {nx : Nat} {h : T AO} {w : World} (hr : HR ρ P ι nx h w) {i : Nat} (hi : nx ≤ i) : h.get i = none := by
  cases hc : h.get i with
  | none => rfl
  | some o =>
    obtain ⟨l, hl, _⟩ := hr.obj i o hc
    have := hr.fresh i l hl; omega

/-- NEW MEMORY: a block is laid behind all others; a new object stands for it -/
theorem HR.alloc {ι : Io} {nx : Nat} {h : T AO} {w : World} (hr : HR ρ P ι nx h w) (O : Obj) (o : AO) (sz : Nat) (w' : World) (hheap : w'.heap = w.heap.push O)
    (hsame : w'.os = w.os ∧ w'.output = w.output ∧ w'.tape = w.tape) (_ : o.mate? = none)
    (ho : ObjR P ρ (ι.put nx ⟨w.heap.size, 0, sz⟩) w' ⟨w.heap.size, 0, sz⟩ o) :
    HR ρ P (ι.put nx ⟨w.heap.size, 0, sz⟩) (nx + 1) (h.set nx o) w' ∧ Nxt ι h w nx (ι.put nx ⟨w.heap.size, 0, sz⟩) (h.set nx o) w' (nx + 1) := by
  have hnone : ι nx = none := hr.none_of_ge (Nat.le_refl _)
  have hle := Io.le_put (ι := ι) (id := nx) ⟨w.heap.size, 0, sz⟩ hnone
  have old : ∀ l : Loc, l.blk < w.heap.size → w'.heap[l.blk]? = w.heap[l.blk]? := by
    intro l hl
    rw [hheap, push_get, if_neg (by omega)]
  refine ⟨⟨?_, ?_, ?_, ?_⟩, ⟨hle, by omega, ?_, by rw [hheap]; simp, ?_, hsame⟩⟩
  · intro id o' hg
    rw [T.get_set] at hg
    by_cases e : id = nx
    · subst e
      simp at hg; subst hg
      exact ⟨_, Io.put_same _ _ _, ho⟩
    · rw [if_neg e] at hg
      obtain ⟨l, hl, ho'⟩ := hr.obj id o' hg
      exact ⟨l, hle _ _ hl, ho'.mono hle (old l ho'.blk_lt)⟩
  · intro i j oi oj li lj hij hi hj hli hlj hb
    rw [T.get_set] at hi hj
    by_cases ei : i = nx
    · subst ei
      rw [if_neg (fun e => hij e.symm)] at hj
      rw [Io.put_same] at hli
      rw [Io.put_other _ _ _ (fun e => hij e.symm)] at hlj
      obtain ⟨l, hl, ho'⟩ := hr.obj j oj hj
      rw [hlj] at hl; cases hl; cases hli
      have := ho'.blk_lt
      simp at hb; omega
    · rw [if_neg ei] at hi
      rw [Io.put_other _ _ _ ei] at hli
      by_cases ej : j = nx
      · subst ej
        rw [Io.put_same] at hlj
        obtain ⟨l, hl, ho'⟩ := hr.obj i oi hi
        rw [hli] at hl; cases hl; cases hlj
        have := ho'.blk_lt
        simp at hb; omega
      · rw [if_neg ej] at hj
        rw [Io.put_other _ _ _ ej] at hlj
        exact hr.apart i j oi oj li lj hij hi hj hli hlj hb
  · intro id l hl
    by_cases e : id = nx
    · subst e; omega
    · rw [Io.put_other _ _ _ e] at hl
      have := hr.fresh id l hl; omega
  · intro g hg
    obtain ⟨s, hs⟩ := hr.glob g hg
    exact ⟨s, hle _ _ hs⟩
  · intro i l hl hn
    by_cases e : i = nx
    · omega
    · rw [Io.put_other _ _ _ e, hn] at hl; cases hl
  · intro b hb hf
    refine ⟨by rw [hheap, push_get, if_neg (by omega)], ?_⟩
    intro id o' l hg hl
    rw [T.get_set] at hg
    by_cases e : id = nx
    · subst e
      rw [Io.put_same] at hl; cases hl
      simp; omega
    · rw [if_neg e] at hg
      rw [Io.put_other _ _ _ e] at hl
      exact hf id o' l hg hl

/-- the heap without an object's mate -/
def unmate (h : T AO) (o : AO) : T AO := opt o.mate? h (fun m => h.del m)
theorem unmate_get (h : T AO) (o : AO) (i : Nat) : (unmate h o).get i = if o.mate? = some i then none else h.get i := by
  unfold unmate
  cases hm : o.mate? with
  | none => simp
  | some m =>
    simp only [opt_some, T.get_del, Option.some.injEq]
    by_cases e : i = m
    · subst e; simp
    · rw [if_neg e, if_neg (fun e' => e e'.symm)]

/-- A WRITING through an object: its block is turned, its mate is lost -/
theorem HR.write {ι : Io} {nx : Nat} {h : T AO} {w : World} (hr : HR ρ P ι nx h w) {id : Nat} {o o' : AO} {l : Loc} (hg : h.get id = some o) (hl : ι id = some l) (O : Obj)
    (_ : o'.mate? = none) (ho : ObjR P ρ ι (setBlk w l.blk O) l o') :
    HR ρ P ι nx ((unmate h o).set id o') (setBlk w l.blk O) ∧ Nxt ι h w nx ι ((unmate h o).set id o') (setBlk w l.blk O) nx := by
  have other : ∀ j oj lj, j ≠ id → (unmate h o).get j = some oj → ι j = some lj → lj.blk ≠ l.blk ∧ h.get j = some oj := by
    intro j oj lj hj hgj hlj
    rw [unmate_get] at hgj
    by_cases e : o.mate? = some j
    · rw [if_pos e] at hgj; cases hgj
    · rw [if_neg e] at hgj
      refine ⟨fun hb => ?_, hgj⟩
      exact e (hr.apart j id oj o lj l hj hgj hg hlj hl hb).2
  refine ⟨⟨?_, ?_, hr.fresh, hr.glob⟩, ⟨Io.le_refl ι, Nat.le_refl _, fun i l e e' => (by rw [e] at e'; cases e'), by rw [setBlk_size]; exact Nat.le_refl _, ?_, rfl, rfl, rfl⟩⟩
  · intro j oj hj
    rw [T.get_set] at hj
    by_cases e : j = id
    · subst e; simp at hj; subst hj
      exact ⟨l, hl, ho⟩
    · rw [if_neg e] at hj
      have hj' : h.get j = some oj := by
        rw [unmate_get] at hj
        split at hj
        · cases hj
        · exact hj
      obtain ⟨lj, hlj, hoj⟩ := hr.obj j oj hj'
      refine ⟨lj, hlj, hoj.mono (Io.le_refl ι) ?_⟩
      rw [setBlk_get, if_neg]
      intro hb
      exact (other j oj lj e hj hlj).1 hb.1.symm
  · intro i j oi oj li lj hij hi hj hli hlj hb
    rw [T.get_set] at hi hj
    by_cases ei : i = id
    · subst ei
      rw [if_neg (fun e => hij e.symm)] at hj
      rw [hl] at hli; cases hli
      exact absurd hb.symm (other j oj lj (fun e => hij e.symm) hj hlj).1
    · rw [if_neg ei] at hi
      by_cases ej : j = id
      · subst ej
        rw [hl] at hlj; cases hlj
        exact absurd hb (other i oi li ei hi hli).1
      · rw [if_neg ej] at hj
        exact hr.apart i j oi oj li lj hij (other i oi li ei hi hli).2 (other j oj lj ej hj hlj).2 hli hlj hb
  · intro b hb hf
    have hne : l.blk ≠ b := hf id o l hg hl
    refine ⟨by rw [setBlk_get, if_neg (fun e => hne e.1)], ?_⟩
    intro j oj lj hj hlj
    rw [T.get_set] at hj
    by_cases e : j = id
    · subst e
      rw [hl] at hlj; cases hlj
      exact hne
    · rw [if_neg e] at hj
      exact hf j oj lj (other j oj lj e hj hlj).2 hlj
end Go.Proofs.YtoklobcagaolmaaGreatDoor.SE
end

noncomputable section
namespace Go.Proofs.YtoklobcagaolmaaGreatDoor.SE
variable {P : Program} {ρ : Val} {ι : Io}

/-! ## whole numbers -/
@[simp] theorem int2_ofNat {β : Type} (n : Nat) (p m : Nat → β) : int2 (Int.ofNat n) p m = p n := rfl
@[simp] theorem int2_negSucc {β : Type} (n : Nat) (p m : Nat → β) : int2 (Int.negSucc n) p m = m n := rfl
theorem addI_eq (x y : Int) : addI x y = x + y := by
  cases x <;> cases y <;> rfl
theorem subI_eq (x y : Int) : subI x y = x - y := by
  cases x with
  | negSucc a => rfl
  | ofNat a =>
    cases y with
    | negSucc b => rfl
    | ofNat b =>
      show bif2 (Nat.ble b a) (Int.ofNat (Nat.sub a b)) (Int.negSucc (Nat.sub (Nat.sub b a) 1)) = _
      cases h : Nat.ble b a with
      | true =>
        have := Nat.le_of_ble_eq_true h
        simp only [bif2_true, Int.ofNat_eq_natCast]
        show ((a - b : Nat) : Int) = _
        omega
      | false =>
        have : ¬ b ≤ a := fun e => by rw [Nat.ble_eq_true_of_le e] at h; cases h
        simp only [bif2_false, Int.ofNat_eq_natCast]
        rw [Int.negSucc_eq]
        show -(((b - a - 1 : Nat) : Int) + 1) = _
        omega
theorem mulI_eq (x y : Int) : mulI x y = x * y := by
  cases x with
  | negSucc a => rfl
  | ofNat a => cases y with
    | negSucc b => rfl
    | ofNat b => exact (Int.natCast_mul a b)
theorem eqI_eq (x y : Int) : eqI x y = (x == y) := by
  cases x with
  | ofNat a => cases y with
    | ofNat b =>
      show Nat.beq a b = _
      rw [Bool.eq_iff_iff]
      simp; omega
    | negSucc b => rfl
  | negSucc a => cases y with
    | ofNat b => rfl
    | negSucc b =>
      show Nat.beq a b = _
      rw [Bool.eq_iff_iff]
      simp
theorem leI_eq (x y : Int) : leI x y = decide (x ≤ y) := by
  cases x with
  | ofNat a => cases y with
    | ofNat b =>
      show Nat.ble a b = _
      rw [Bool.eq_iff_iff]
      simp
    | negSucc b => show false = _; symm; simp; omega
  | negSucc a => cases y with
    | ofNat b => show true = _; symm; simp; omega
    | negSucc b =>
      show Nat.ble b a = _
      rw [Bool.eq_iff_iff]
      simp; omega
theorem ltI_eq (x y : Int) : ltI x y = decide (x < y) := by
  cases x with
  | ofNat a => cases y with
    | ofNat b =>
      show Nat.ble (a + 1) b = _
      rw [Bool.eq_iff_iff]
      simp; omega
    | negSucc b => show false = _; symm; simp; omega
  | negSucc a => cases y with
    | ofNat b => show true = _; symm; simp; omega
    | negSucc b =>
      show Nat.ble (b + 1) a = _
      rw [Bool.eq_iff_iff]
      simp; omega

theorem two_eq (k : IntKind) : two k = 2 ^ k.bits := by cases k <;> rfl
theorem sgn_eq (k : IntKind) : sgn k = k.signed := by cases k <;> rfl
theorem bts_eq (k : IntKind) : bts k = k.bits := by cases k <;> rfl
theorem bitsOf_eq (n : Int) (m : Nat) (hm : 0 < m) : (bitsOf n m : Int) = n % (m : Int) := by
  cases n with
  | ofNat a => show ((a % m : Nat) : Int) = _; simp
  | negSucc a =>
    show ((m - 1 - a % m : Nat) : Int) = _
    rw [Int.negSucc_emod _ (by omega)]
    have : a % m < m := Nat.mod_lt _ hm
    omega
theorem bitsOf_lt (n : Int) (m : Nat) (hm : 0 < m) : bitsOf n m < m := by
  have h := bitsOf_eq n m hm
  have := Int.emod_lt_of_pos n (show (0 : Int) < m by omega)
  omega
theorem two_pos (k : IntKind) : 0 < two k := by cases k <;> decide
theorem wrapN_eq (k : IntKind) (n : Int) : wrapN k n = k.wrap n := by
  have hb := bitsOf_eq n (two k) (two_pos k)
  have hl := bitsOf_lt n (two k) (two_pos k)
  unfold wrapN
  generalize bitsOf n (two k) = r at hb hl
  rw [bif2_eq, bif2_eq, sgn_eq]
  unfold IntKind.wrap
  have h2 : ((two k : Nat) : Int) = 2 ^ k.bits := by rw [two_eq]; push_cast; rfl
  rw [h2] at hb
  have hd : Nat.div (two k) 2 = two k / 2 := rfl
  have hs : Nat.sub (Nat.sub (two k) 1) r = two k - 1 - r := rfl
  rw [hd, hs, ← hb]
  have h3 : (2 : Int) ^ (k.bits - 1) = ((two k / 2 : Nat) : Int) := by cases k <;> rfl
  rw [h3, ← h2]
  cases hk : k.signed with
  | false => simp
  | true =>
    by_cases hle : two k / 2 ≤ r
    · have : Nat.ble (two k / 2) r = true := Nat.ble_eq_true_of_le hle
      rw [this]
      simp only [if_true, Bool.true_and]
      rw [if_pos (by simp; omega), Int.negSucc_eq]
      omega
    · have : Nat.ble (two k / 2) r = false := by
        cases h : Nat.ble (two k / 2) r with
        | true => exact absurd (Nat.le_of_ble_eq_true h) hle
        | false => rfl
      rw [this]
      simp only [if_true, Bool.true_and]
      rw [if_neg (by simp), if_neg (by simp; omega)]
      rfl

theorem ofInt_toNat (k : IntKind) (x : Int) : (BitVec.ofInt k.bits x).toNat = bitsOf x (two k) := by
  have h := bitsOf_eq x (two k) (two_pos k)
  have h2 : ((two k : Nat) : Int) = 2 ^ k.bits := by rw [two_eq]; push_cast; rfl
  rw [BitVec.toNat_ofInt]
  rw [h2] at h
  have h3 : ((2 ^ k.bits : Nat) : Int) = 2 ^ k.bits := by push_cast; rfl
  rw [h3, ← h]
  rfl

/-! the model's own binary operation on two whole numbers -/
theorem run_pureV {w : World} {v : Value} : (pure v : Sem Value).run P w = .ok v w := rfl
theorem binI_ok {op : BinOp} {k k' : IntKind} {m n : Int} {a : AV} (h : binI op k m k' n = .ok a) (t : TypeId) (w : World) :
    ∃ v, (binOp op t (.int k m) (.int k' n)).run P w = .ok v w ∧ VR ρ ι a v := by
  unfold binI at h
  have shc : isShB op = true → (op = .shl ∨ op = .shr) := by cases op <;> intro e <;> first | exact .inl rfl | exact .inr rfl | exact Bool.noConfusion e
  have nsh : isShB op = false → (op ≠ .shl ∧ op ≠ .shr) := by cases op <;> intro e <;> first | exact Bool.noConfusion e | exact ⟨by simp, by simp⟩
  cases hs : isShB op with
  | true =>
    rw [hs] at h
    simp only [bif2_true] at h
    rcases shc hs with rfl | rfl
    · have h' : sShl k m n = .ok a := h
      cases n with
      | negSucc y => cases h'
      | ofNat y =>
        have h'' : okI k (wrapN k (mulI m (Int.ofNat (Nat.pow 2 (shBy k y))))) = .ok a := h'
        cases h''
        refine ⟨_, ?_, .int _ _⟩
        unfold binOp Op.shift
        have hn : ¬ ((Int.ofNat y : Int) < 0) := by simp
        simp only [hn, if_false]
        show (pure _ : Sem Value).run P w = _
        rw [run_pureV, wrapN_eq, mulI_eq]
        have e1 : (Int.ofNat (Nat.pow 2 (shBy k y)) : Int) = 2 ^ (min (Int.ofNat y).toNat k.bits) := by
          have : shBy k y = min y k.bits := by
            unfold shBy
            rw [bif2_eq, bts_eq]
            by_cases hle : y ≤ k.bits
            · rw [if_pos (Nat.ble_eq_true_of_le hle)]; omega
            · rw [if_neg (fun e => hle (Nat.le_of_ble_eq_true e))]; omega
          rw [this]
          show ((2 ^ (min y k.bits) : Nat) : Int) = _
          simp
        rw [e1]
    · have h' : sShr k m n = .ok a := h
      cases n with
      | negSucc y => cases h'
      | ofNat y =>
        have hn : ¬ ((Int.ofNat y : Int) < 0) := by simp
        have e2 : shBy k y = min (Int.ofNat y).toNat k.bits := by
          unfold shBy
          rw [bif2_eq, bts_eq]
          show _ = min y k.bits
          by_cases hle : y ≤ k.bits
          · rw [if_pos (Nat.ble_eq_true_of_le hle)]; omega
          · rw [if_neg (fun e => hle (Nat.le_of_ble_eq_true e))]; omega
        cases m with
        | ofNat x =>
          have h'' : okI k (Int.ofNat (Nat.shiftRight x (shBy k y))) = .ok a := h'
          cases h''
          refine ⟨_, ?_, .int _ _⟩
          unfold binOp Op.shift
          simp only [hn, if_false]
          show (pure _ : Sem Value).run P w = _
          rw [run_pureV, e2]
          congr 2
          show Int.fdiv (x : Int) (2 ^ _) = ((x >>> _ : Nat) : Int)
          rw [Nat.shiftRight_eq_div_pow]
          rw [Int.fdiv_eq_ediv_of_nonneg _ (by exact Int.le_of_lt (Int.pow_pos (by omega)))]
          push_cast
          rfl
        | negSucc x =>
          have h'' : okI k (Int.negSucc (Nat.shiftRight x (shBy k y))) = .ok a := h'
          cases h''
          refine ⟨_, ?_, .int _ _⟩
          unfold binOp Op.shift
          simp only [hn, if_false]
          show (pure _ : Sem Value).run P w = _
          rw [run_pureV, e2]
          congr 2
          have : Nat.shiftRight x (min (Int.ofNat y).toNat k.bits) = x / 2 ^ (min (Int.ofNat y).toNat k.bits) := by
            show x >>> _ = _
            rw [Nat.shiftRight_eq_div_pow]
          rw [this, Int.fdiv_eq_ediv_of_nonneg _ (Int.le_of_lt (Int.pow_pos (by omega)))]
          have hp : (0 : Int) < 2 ^ (min (Int.ofNat y).toNat k.bits) := Int.pow_pos (by omega)
          rw [Int.negSucc_ediv _ hp, Int.negSucc_eq]
          have e3 : ((x : Int)).ediv (2 ^ (min (Int.ofNat y).toNat k.bits)) = ((x / 2 ^ (min (Int.ofNat y).toNat k.bits) : Nat) : Int) := by
            push_cast; rfl
          rw [e3]
  | false =>
    rw [hs] at h
    simp only [bif2_false] at h
    obtain ⟨hk, h1⟩ := bif2_eq_ok h
    clear h
    have := kindNo_inj hk
    subst this
    have hb := ofInt_toNat k
    have hne := nsh hs
    have ok : ∀ {u : Int} {a' : AV}, okI k u = .ok a' → VR ρ ι a' (.int k u) := fun e => by cases e; exact .int _ _
    have okb : ∀ {u : Bool} {a' : AV}, okB u = .ok a' → VR ρ ι a' (.bool u) := fun e => by cases e; exact .bool _
    have bit : ∀ (u : Nat) (r : BitVec k.bits), r.toNat = u → wrapN k (Int.ofNat u) = k.wrap r.toNat := fun u r e => by rw [wrapN_eq, e]; rfl
    cases op with
    | shl => exact absurd rfl hne.1
    | shr => exact absurd rfl hne.2
    | add =>
      have h' : okI k (wrapN k (addI m n)) = .ok a := h1
      rw [wrapN_eq, addI_eq] at h'
      exact ⟨_, by simp [binOp, Op.intArith], ok h'⟩
    | sub =>
      have h' : okI k (wrapN k (subI m n)) = .ok a := h1
      rw [wrapN_eq, subI_eq] at h'
      exact ⟨_, by simp [binOp, Op.intArith], ok h'⟩
    | mul =>
      have h' : okI k (wrapN k (mulI m n)) = .ok a := h1
      rw [wrapN_eq, mulI_eq] at h'
      exact ⟨_, by simp [binOp, Op.intArith], ok h'⟩
    | quo =>
      have h' : bif2 (eqI n 0) (.no "zero") (okI k (wrapN k (m.tdiv n))) = .ok a := h1
      rw [eqI_eq, wrapN_eq, bif2_eq] at h'
      by_cases h0 : n = 0
      · subst h0; simp at h'
      · rw [if_neg (by simpa using h0)] at h'
        exact ⟨_, by simp [binOp, Op.intDiv, h0], ok h'⟩
    | rem =>
      have h' : bif2 (eqI n 0) (.no "zero") (okI k (m.tmod n)) = .ok a := h1
      rw [eqI_eq, bif2_eq] at h'
      by_cases h0 : n = 0
      · subst h0; simp at h'
      · rw [if_neg (by simpa using h0)] at h'
        exact ⟨_, by simp [binOp, Op.intDiv, h0], ok h'⟩
    | and =>
      have h' : okI k (wrapN k (Int.ofNat (Nat.land (bitsOf m (two k)) (bitsOf n (two k))))) = .ok a := h1
      rw [bit _ (BitVec.ofInt k.bits m &&& BitVec.ofInt k.bits n) (by rw [BitVec.toNat_and, hb, hb]; rfl)] at h'
      exact ⟨_, by simp [binOp, Op.intBits], ok h'⟩
    | or =>
      have h' : okI k (wrapN k (Int.ofNat (Nat.lor (bitsOf m (two k)) (bitsOf n (two k))))) = .ok a := h1
      rw [bit _ (BitVec.ofInt k.bits m ||| BitVec.ofInt k.bits n) (by rw [BitVec.toNat_or, hb, hb]; rfl)] at h'
      exact ⟨_, by simp [binOp, Op.intBits], ok h'⟩
    | xor =>
      have h' : okI k (wrapN k (Int.ofNat (Nat.xor (bitsOf m (two k)) (bitsOf n (two k))))) = .ok a := h1
      rw [bit _ (BitVec.ofInt k.bits m ^^^ BitVec.ofInt k.bits n) (by rw [BitVec.toNat_xor, hb, hb]; rfl)] at h'
      exact ⟨_, by simp [binOp, Op.intBits], ok h'⟩
    | andNot =>
      have h' : okI k (wrapN k (Int.ofNat (Nat.land (bitsOf m (two k)) (Nat.sub (Nat.sub (two k) 1) (bitsOf n (two k)))))) = .ok a := h1
      rw [bit _ (BitVec.ofInt k.bits m &&& ~~~ BitVec.ofInt k.bits n) (by rw [BitVec.toNat_and, BitVec.toNat_not, hb, hb, two_eq]; rfl)] at h'
      exact ⟨_, by simp [binOp, Op.intBits], ok h'⟩
    | eql =>
      have h' : okB (eqI m n) = .ok a := h1
      rw [eqI_eq] at h'
      exact ⟨_, by simp [binOp, Op.intCmp], okb h'⟩
    | neq =>
      have h' : okB (bif2 (eqI m n) false true) = .ok a := h1
      rw [eqI_eq] at h'
      refine ⟨.bool (m != n), by simp [binOp, Op.intCmp], ?_⟩
      have e : (m != n) = bif2 (m == n) false true := by
        cases hq : (m == n) <;> simp [bne, hq]
      rw [e]; exact okb h'
    | lss =>
      have h' : okB (ltI m n) = .ok a := h1
      rw [ltI_eq] at h'
      exact ⟨_, by simp [binOp, Op.intCmp], okb h'⟩
    | leq =>
      have h' : okB (leI m n) = .ok a := h1
      rw [leI_eq] at h'
      exact ⟨_, by simp [binOp, Op.intCmp], okb h'⟩
    | gtr =>
      have h' : okB (ltI n m) = .ok a := h1
      rw [ltI_eq] at h'
      exact ⟨_, by simp [binOp, Op.intCmp], okb h'⟩
    | geq =>
      have h' : okB (leI n m) = .ok a := h1
      rw [leI_eq] at h'
      exact ⟨_, by simp [binOp, Op.intCmp], okb h'⟩
end Go.Proofs.YtoklobcagaolmaaGreatDoor.SE
end

noncomputable section
namespace Go.Proofs.YtoklobcagaolmaaGreatDoor.SE
variable {P : Program} {ρ : Val} {ι : Io}

/-! ## facts -/
def binSem (op : BinOp) (k : IntKind) (a b : Int) : Option Int :=
  match op with
  | .add => some (k.wrap (a + b))
  | .sub => some (k.wrap (a - b))
  | .mul => some (k.wrap (a * b))
  | .quo => if b = 0 then none else some (k.wrap (a.tdiv b))
  | .rem => if b = 0 then none else some (a.tmod b)
  | .and => some (k.wrap (BitVec.ofInt k.bits a &&& BitVec.ofInt k.bits b).toNat)
  | .or => some (k.wrap (BitVec.ofInt k.bits a ||| BitVec.ofInt k.bits b).toNat)
  | .xor => some (k.wrap (BitVec.ofInt k.bits a ^^^ BitVec.ofInt k.bits b).toNat)
  | .andNot => some (k.wrap (BitVec.ofInt k.bits a &&& ~~~BitVec.ofInt k.bits b).toNat)
  | .shl => if b < 0 then none else some (k.wrap (a * 2 ^ (min b.toNat k.bits)))
  | .shr => if b < 0 then none else some (a.fdiv (2 ^ (min b.toNat k.bits)))
  | _ => none
def Def.holds (ρ : Val) : Def → Int → Prop
  | .bin op k x y, n => binSem op k (x.eval ρ) (y.eval ρ) = some n
  | .conv k x, n => k.wrap (x.eval ρ) = n
def Cmp.sem : Cmp → Int → Bool
  | .lt, n => decide (n < 0)
  | .le, n => decide (n ≤ 0)
  | .eq, n => decide (n = 0)
structure Ctx.ok (Γ : Ctx) (ρ : Val) : Prop where
  box : ∀ i lo hi, Γ.box[i]? = some (lo, hi) → lo ≤ ρ i ∧ ρ i ≤ hi
  defs : ∀ d l, (d, l) ∈ Γ.defs → d.holds ρ (l.eval ρ)
  facts : ∀ e q b, (e, q, b) ∈ Γ.facts → q.sem (e.eval ρ) = b

theorem termsEval_append (x y : List (Nat × Int)) : termsEval ρ (x ++ y) = termsEval ρ x + termsEval ρ y := by
  induction x with
  | nil => simp [termsEval]
  | cons p x ih => obtain ⟨i, a⟩ := p; simp only [List.cons_append, termsEval, ih]; omega
theorem termsEval_merge : ∀ (f : Nat) (x y : List (Nat × Int)), termsEval ρ (merge f x y) = termsEval ρ x + termsEval ρ y
  | 0, x, y => by simp [merge, termsEval_append]
  | f + 1, [], y => by simp [merge, termsEval]
  | f + 1, p :: x, [] => by simp [merge, termsEval]
  | f + 1, (i, a) :: x, (j, b) :: y => by
    unfold merge
    cases h1 : Nat.beq i j with
    | true =>
      have := Nat.eq_of_beq_eq_true h1
      subst this
      simp only [cond_true]
      split
      · rename_i h2
        have e : a * ρ i + b * ρ i = 0 := by rw [← Int.add_mul, h2]; simp
        rw [termsEval_merge f x y]
        simp only [termsEval]
        omega
      · simp only [termsEval, termsEval_merge f x y, Int.add_mul]
        omega
    | false =>
      simp only [cond_false]
      cases h2 : Nat.blt i j with
      | true => simp only [cond_true, termsEval, termsEval_merge f x ((j, b) :: y)]; omega
      | false => simp only [cond_false, termsEval, termsEval_merge f ((i, a) :: x) y]; omega
theorem Lin.eval_add (x y : Lin) : (x.add y).eval ρ = x.eval ρ + y.eval ρ := by
  simp only [Lin.eval, Lin.add, termsEval_merge]; omega
theorem termsEval_scale (k : Int) (x : List (Nat × Int)) : termsEval ρ (x.map fun (i, a) => (i, k * a)) = k * termsEval ρ x := by
  induction x with
  | nil => simp [termsEval]
  | cons p x ih => obtain ⟨i, a⟩ := p; simp only [List.map_cons, termsEval, ih, Int.mul_add, Int.mul_assoc]
theorem Lin.eval_scale (k : Int) (x : Lin) : (x.scale k).eval ρ = k * x.eval ρ := by
  unfold Lin.scale
  split
  · rename_i h; subst h; simp [Lin.eval, termsEval]
  · simp only [Lin.eval, termsEval_scale, Int.mul_add]
theorem Lin.eval_sub (x y : Lin) : (x.sub y).eval ρ = x.eval ρ - y.eval ρ := by
  unfold Lin.sub; rw [Lin.eval_add, Lin.eval_scale]; omega
theorem Lin.eval_of (n : Int) : (Lin.of n).eval ρ = n := by simp [Lin.eval, Lin.of, termsEval]
theorem Lin.eval_atom (i : Nat) : (Lin.atom i).eval ρ = ρ i := by simp [Lin.eval, Lin.atom, termsEval]

theorem range_go {Γ : Ctx} (hΓ : Γ.ok ρ) : ∀ (l : List (Nat × Int)) (lo hi x : Int) (r : Int × Int), Ctx.range.go Γ l lo hi = some r → lo ≤ x → x ≤ hi → r.1 ≤ x + termsEval ρ l ∧ x + termsEval ρ l ≤ r.2
  | [], lo, hi, x, r, h, h1, h2 => by
    simp only [Ctx.range.go] at h; cases h
    simp [termsEval, h1, h2]
  | (i, a) :: l, lo, hi, x, r, h, h1, h2 => by
    simp only [Ctx.range.go] at h
    split at h
    · rename_i lu b hb
      rw [nth_eq] at hb
      obtain ⟨b1, b2⟩ := hΓ.box i lu b hb
      split at h
      · rename_i ha
        have m1 : a * lu ≤ a * ρ i := Int.mul_le_mul_of_nonneg_left b1 ha
        have m2 : a * ρ i ≤ a * b := Int.mul_le_mul_of_nonneg_left b2 ha
        have := range_go hΓ l _ _ (x + a * ρ i) r h (by omega) (by omega)
        simp only [termsEval]
        omega
      · rename_i ha
        have m1 : a * b ≤ a * ρ i := Int.mul_le_mul_of_nonpos_left (by omega) b2
        have m2 : a * ρ i ≤ a * lu := Int.mul_le_mul_of_nonpos_left (by omega) b1
        have := range_go hΓ l _ _ (x + a * ρ i) r h (by omega) (by omega)
        simp only [termsEval]
        omega
    · cases h
theorem range_ok {Γ : Ctx} (hΓ : Γ.ok ρ) {x : Lin} {r : Int × Int} (h : Γ.range x = some r) : r.1 ≤ x.eval ρ ∧ x.eval ρ ≤ r.2 := by
  exact range_go hΓ x.ts x.c x.c x.c r h (Int.le_refl _) (Int.le_refl _)
theorem judge_ok {Γ : Ctx} (hΓ : Γ.ok ρ) {q : Cmp} {d : Lin} {b : Bool} (h : Γ.judge q d = .ok b) : q.sem (d.eval ρ) = b := by
  unfold Ctx.judge at h
  split at h
  · rename_i x e y hf
    cases h
    have hm := List.mem_of_find?_eq_some hf
    have hp := List.find?_some hf
    simp only [Bool.and_eq_true, beq_iff_eq] at hp
    obtain ⟨rfl, rfl⟩ := hp
    exact hΓ.facts _ _ _ hm
  · split at h
    · cases h
    · rename_i lo hi hr
      have := range_ok hΓ hr
      simp only at this
      cases q <;> simp only [Cmp.sem] at h ⊢
      · split at h
        · cases h; simp; omega
        · split at h
          · cases h; simp; omega
          · cases h
      · split at h
        · cases h; simp; omega
        · split at h
          · cases h; simp; omega
          · cases h
      · split at h
        · rename_i hc
          cases h
          simp at hc
          simp; omega
        · split at h
          · rename_i hc
            cases h
            simp at hc
            simp; omega
          · cases h
theorem look_ok {Γ : Ctx} (hΓ : Γ.ok ρ) {d : Def} {i : Lin} (h : Γ.look d = some i) : d.holds ρ (i.eval ρ) := by
  unfold Ctx.look at h
  cases hf : Γ.defs.find? (fun (e, _) => e == d) with
  | none => rw [hf] at h; cases h
  | some p =>
    obtain ⟨e, j⟩ := p
    rw [hf] at h
    simp at h
    subst h
    have hm := List.mem_of_find?_eq_some hf
    have hp := List.find?_some hf
    simp only [beq_iff_eq] at hp
    subst hp
    exact hΓ.defs _ _ hm
theorem mkInt_ok (k : IntKind) (e : Lin) : VR ρ ι (mkInt k e) (.int k (e.eval ρ)) := by
  unfold mkInt
  split
  · rename_i h
    have : e.eval ρ = e.c := by simp [Lin.eval, h, termsEval]
    rw [this]; exact .int _ _
  · exact .sym _ _
theorem wrap_of_range (k : IntKind) (n : Int) (h1 : k.min ≤ n) (h2 : n ≤ k.max) : k.wrap n = n := by
  cases k <;> simp [IntKind.min, IntKind.max, IntKind.signed, IntKind.bits] at h1 h2 <;> simp [IntKind.wrap, IntKind.signed, IntKind.bits] <;> (try split) <;> omega
theorem fits_ok {Γ : Ctx} (hΓ : Γ.ok ρ) {k : IntKind} {e : Lin} (h : Γ.fits k e = true) : k.wrap (e.eval ρ) = e.eval ρ := by
  unfold Ctx.fits at h
  split at h
  · rename_i lo hi hr
    have := range_ok hΓ hr
    simp at h this
    exact wrap_of_range k _ (by omega) (by omega)
  · cases h

theorem symBin_ok {Γ : Ctx} (hΓ : Γ.ok ρ) {op : BinOp} {k k' : IntKind} {x y : Lin} {a : AV} (h : symBin Γ op k x y = .ok a) (hk : isSh op = true ∨ k = k') (t : TypeId) (w : World) :
    ∃ v, (binOp op t (.int k (x.eval ρ)) (.int k' (y.eval ρ))).run P w = .ok v w ∧ VR ρ ι a v := by
  have atom : ∀ (i : Lin) (n : Int), i.eval ρ = n → VR ρ ι (mkInt k i) (.int k n) := fun i n e => by
    rw [← e]; exact mkInt_ok k i
  have lin : ∀ (e : Lin) (n : Int), k.wrap n = k.wrap (e.eval ρ) → binSem op k (x.eval ρ) (y.eval ρ) = some (k.wrap n) →
      (if Γ.fits k e then R.ok (mkInt k e) else match Γ.look (.bin op k x y) with
        | some i => .ok (mkInt k i)
        | none => .no (msgBin "no atom" op k x y)) = R.ok a → VR ρ ι a (.int k (k.wrap n)) := by
    intro e n he hs hh
    split at hh
    · rename_i hf
      cases hh
      rw [he, fits_ok hΓ hf]
      exact mkInt_ok k e
    · split at hh
      · rename_i i hl
        cases hh
        have := look_ok hΓ hl
        simp only [Def.holds, hs, Option.some.injEq] at this
        exact atom i _ this.symm
      · cases hh
  have far : (match Γ.look (.bin op k x y) with
        | some i => R.ok (mkInt k i)
        | none => .no (msgBin "no atom" op k x y)) = R.ok a → ∃ n, binSem op k (x.eval ρ) (y.eval ρ) = some n ∧ VR ρ ι a (.int k n) := by
    intro hh
    split at hh
    · rename_i i hl
      cases hh
      exact ⟨_, look_ok hΓ hl, atom i _ rfl⟩
    · cases hh
  have cmp : ∀ (q : Cmp) (d : Lin) (f : Bool → Bool), (do R.ok (AV.bool (f (← Γ.judge q d)))) = R.ok a → VR ρ ι a (.bool (f (q.sem (d.eval ρ)))) := by
    intro q d f hh
    cases hj : Γ.judge q d with
    | no s => rw [hj] at hh; cases hh
    | ok b =>
      rw [hj] at hh
      cases hh
      rw [judge_ok hΓ hj]
      exact .bool _
  unfold symBin at h
  simp only at h
  cases op with
  | add =>
    have hk' : k = k' := hk.resolve_left (by simp [isSh])
    subst hk'
    exact ⟨_, by simp [binOp, Op.intArith], lin _ _ (by rw [Lin.eval_add]) rfl h⟩
  | sub =>
    have hk' : k = k' := hk.resolve_left (by simp [isSh])
    subst hk'
    exact ⟨_, by simp [binOp, Op.intArith], lin _ _ (by rw [Lin.eval_sub]) rfl h⟩
  | mul =>
    have hk' : k = k' := hk.resolve_left (by simp [isSh])
    subst hk'
    refine ⟨.int k (k.wrap (x.eval ρ * y.eval ρ)), by simp [binOp, Op.intArith], ?_⟩
    simp only at h
    split at h
    · rename_i hx
      refine lin _ _ ?_ rfl h
      have : x.eval ρ = x.c := by simp [Lin.eval, hx, termsEval]
      rw [Lin.eval_scale, this]
    · rename_i hy _
      refine lin _ _ ?_ rfl h
      have : y.eval ρ = y.c := by simp [Lin.eval, hy, termsEval]
      rw [Lin.eval_scale, this, Int.mul_comm]
    · cases h
  | quo =>
    have hk' : k = k' := hk.resolve_left (by simp [isSh])
    subst hk'
    obtain ⟨n, hn, hv⟩ := far h
    simp only [binSem] at hn
    split at hn
    · cases hn
    · rename_i h0
      cases hn
      exact ⟨_, by simp [binOp, Op.intDiv, h0], hv⟩
  | rem =>
    have hk' : k = k' := hk.resolve_left (by simp [isSh])
    subst hk'
    obtain ⟨n, hn, hv⟩ := far h
    simp only [binSem] at hn
    split at hn
    · cases hn
    · rename_i h0
      cases hn
      exact ⟨_, by simp [binOp, Op.intDiv, h0], hv⟩
  | and =>
    have hk' : k = k' := hk.resolve_left (by simp [isSh])
    subst hk'
    obtain ⟨n, hn, hv⟩ := far h
    cases hn
    exact ⟨_, by simp [binOp, Op.intBits], hv⟩
  | or =>
    have hk' : k = k' := hk.resolve_left (by simp [isSh])
    subst hk'
    obtain ⟨n, hn, hv⟩ := far h
    cases hn
    exact ⟨_, by simp [binOp, Op.intBits], hv⟩
  | xor =>
    have hk' : k = k' := hk.resolve_left (by simp [isSh])
    subst hk'
    obtain ⟨n, hn, hv⟩ := far h
    cases hn
    exact ⟨_, by simp [binOp, Op.intBits], hv⟩
  | andNot =>
    have hk' : k = k' := hk.resolve_left (by simp [isSh])
    subst hk'
    obtain ⟨n, hn, hv⟩ := far h
    cases hn
    exact ⟨_, by simp [binOp, Op.intBits], hv⟩
  | shl =>
    obtain ⟨n, hn, hv⟩ := far h
    simp only [binSem] at hn
    split at hn
    · cases hn
    · rename_i h0
      cases hn
      exact ⟨_, by simp [binOp, Op.shift, h0], hv⟩
  | shr =>
    obtain ⟨n, hn, hv⟩ := far h
    simp only [binSem] at hn
    split at hn
    · cases hn
    · rename_i h0
      cases hn
      exact ⟨_, by simp [binOp, Op.shift, h0], hv⟩
  | eql =>
    have hk' : k = k' := hk.resolve_left (by simp [isSh])
    subst hk'
    have := cmp .eq _ (fun b => b) h
    refine ⟨.bool (x.eval ρ == y.eval ρ), by simp [binOp, Op.intCmp], ?_⟩
    rw [Lin.eval_sub] at this
    have e : (x.eval ρ == y.eval ρ) = Cmp.eq.sem (x.eval ρ - y.eval ρ) := by
      simp only [Cmp.sem]; rw [Bool.eq_iff_iff]; simp; omega
    rw [e]; exact this
  | neq =>
    have hk' : k = k' := hk.resolve_left (by simp [isSh])
    subst hk'
    have := cmp .eq _ (fun b => !b) h
    refine ⟨.bool (x.eval ρ != y.eval ρ), by simp [binOp, Op.intCmp], ?_⟩
    rw [Lin.eval_sub] at this
    have e : (x.eval ρ != y.eval ρ) = !Cmp.eq.sem (x.eval ρ - y.eval ρ) := by
      simp only [Cmp.sem]; rw [Bool.eq_iff_iff]; simp; omega
    rw [e]; exact this
  | lss =>
    have hk' : k = k' := hk.resolve_left (by simp [isSh])
    subst hk'
    have := cmp .lt _ (fun b => b) h
    refine ⟨.bool (decide (x.eval ρ < y.eval ρ)), by simp [binOp, Op.intCmp], ?_⟩
    rw [Lin.eval_sub] at this
    have e : (decide (x.eval ρ < y.eval ρ)) = Cmp.lt.sem (x.eval ρ - y.eval ρ) := by
      simp only [Cmp.sem]; rw [Bool.eq_iff_iff]; simp; omega
    rw [e]; exact this
  | leq =>
    have hk' : k = k' := hk.resolve_left (by simp [isSh])
    subst hk'
    have := cmp .le _ (fun b => b) h
    refine ⟨.bool (decide (x.eval ρ ≤ y.eval ρ)), by simp [binOp, Op.intCmp], ?_⟩
    rw [Lin.eval_sub] at this
    have e : (decide (x.eval ρ ≤ y.eval ρ)) = Cmp.le.sem (x.eval ρ - y.eval ρ) := by
      simp only [Cmp.sem]; rw [Bool.eq_iff_iff]; simp; omega
    rw [e]; exact this
  | gtr =>
    have hk' : k = k' := hk.resolve_left (by simp [isSh])
    subst hk'
    have := cmp .lt _ (fun b => b) h
    refine ⟨.bool (decide (y.eval ρ < x.eval ρ)), by simp [binOp, Op.intCmp], ?_⟩
    rw [Lin.eval_sub] at this
    have e : (decide (y.eval ρ < x.eval ρ)) = Cmp.lt.sem (y.eval ρ - x.eval ρ) := by
      simp only [Cmp.sem]; rw [Bool.eq_iff_iff]; simp; omega
    rw [e]; exact this
  | geq =>
    have hk' : k = k' := hk.resolve_left (by simp [isSh])
    subst hk'
    have := cmp .le _ (fun b => b) h
    refine ⟨.bool (decide (y.eval ρ ≤ x.eval ρ)), by simp [binOp, Op.intCmp], ?_⟩
    rw [Lin.eval_sub] at this
    have e : (decide (y.eval ρ ≤ x.eval ρ)) = Cmp.le.sem (y.eval ρ - x.eval ρ) := by
      simp only [Cmp.sem]; rw [Bool.eq_iff_iff]; simp; omega
    rw [e]; exact this
end Go.Proofs.YtoklobcagaolmaaGreatDoor.SE
end

noncomputable section
namespace Go.Proofs.YtoklobcagaolmaaGreatDoor.SE
variable {P : Program} {ρ : Val} {ι : Io}

theorem shr16 (n : Nat) : Nat.shiftRight n 16 = n / 65536 := by show n >>> 16 = _; rw [Nat.shiftRight_eq_div_pow]
theorem land16 (n : Nat) : Nat.land n 65535 = n % 65536 := by
  show n &&& 65535 = _
  have := Nat.and_two_pow_sub_one_eq_mod n 16
  simpa using this
theorem shr16m (n i : Nat) : Nat.shiftRight n (Nat.mul 16 i) = n / 65536 ^ i := by
  show n >>> (16 * i) = _
  rw [Nat.shiftRight_eq_div_pow, Nat.pow_mul]

theorem Dg.length : ∀ {n num : Nat} {l : List UInt8}, Dg ρ n num l → l.length = n
  | 0, _, [], _ => rfl
  | n + 1, num, b :: r, h => by simp [Dg.length h.2]
  | 0, _, _ :: _, h => h.elim
  | n + 1, _, [], h => h.elim
theorem Dg.num_lt : ∀ {n num : Nat} {l : List UInt8}, Dg ρ n num l → num < 65536 ^ n
  | 0, num, [], h => by have : num = 0 := h; simp [this]
  | n + 1, num, b :: r, h => by
    have := Dg.num_lt h.2
    rw [Nat.pow_succ]
    omega
  | 0, _, _ :: _, h => h.elim
  | n + 1, _, [], h => h.elim
theorem Dg.numOf : ∀ (l : List UInt8), Dg ρ l.length (numOf l) l
  | [] => rfl
  | b :: r => by
    have hb : b.toNat < 256 := b.toNat_lt
    have e : SE.numOf (b :: r) = b.toNat + 65536 * SE.numOf r := rfl
    refine ⟨?_, ?_⟩
    · rw [e]
      have : (b.toNat + 65536 * SE.numOf r) % 65536 = b.toNat := by omega
      rw [this]
      simp only [chVal]
      rw [if_pos hb]
    · rw [e]
      have : (b.toNat + 65536 * SE.numOf r) / 65536 = SE.numOf r := by omega
      rw [this]
      exact Dg.numOf r
theorem Dg.append : ∀ {n m : Nat} {x : List UInt8} {n' m' : Nat} {y : List UInt8}, Dg ρ n m x → Dg ρ n' m' y → Dg ρ (n + n') (m + 65536 ^ n * m') (x ++ y)
  | 0, m, [], n', m', y, h, h' => by
    have : m = 0 := h
    subst this
    simpa using h'
  | n + 1, m, b :: x, n', m', y, h, h' => by
    have ih := Dg.append h.2 h'
    have e : n + 1 + n' = (n + n') + 1 := by omega
    rw [e]
    have e2 : m + 65536 ^ (n + 1) * m' = m + 65536 * (65536 ^ n * m') := by rw [Nat.pow_succ, Nat.mul_comm (65536 ^ n) 65536, Nat.mul_assoc]
    rw [e2]
    refine ⟨?_, ?_⟩
    · rw [Nat.add_mul_mod_self_left]; exact h.1
    · rw [Nat.add_mul_div_left _ _ (by omega)]; exact ih
  | 0, _, _ :: _, _, _, _, h, _ => h.elim
  | n + 1, _, [], _, _, _, h, _ => h.elim
theorem Dg.drop : ∀ (k : Nat) {n m : Nat} {x : List UInt8}, Dg ρ n m x → Dg ρ (n - k) (m / 65536 ^ k) (x.drop k)
  | 0, n, m, x, h => by simpa using h
  | k + 1, 0, m, [], h => by
    have : m = 0 := h
    subst this
    simp [Dg]
  | k + 1, n + 1, m, b :: x, h => by
    have ih := Dg.drop k h.2
    have e : n + 1 - (k + 1) = n - k := by omega
    rw [e, List.drop_succ_cons, Nat.pow_succ, Nat.mul_comm, ← Nat.div_div_eq_div_mul]
    exact ih
  | k + 1, 0, _, _ :: _, h => h.elim
  | k + 1, n + 1, _, [], h => h.elim
theorem Dg.take : ∀ (k : Nat) {n m : Nat} {x : List UInt8}, Dg ρ n m x → k ≤ n → Dg ρ k (m % 65536 ^ k) (x.take k)
  | 0, n, m, x, h, _ => by simp [Dg, Nat.mod_one]
  | k + 1, 0, m, x, h, hk => by omega
  | k + 1, n + 1, m, b :: x, h, hk => by
    have ih := Dg.take k h.2 (by omega)
    rw [List.take_succ_cons]
    refine ⟨?_, ?_⟩
    · have : m % 65536 ^ (k + 1) % 65536 = m % 65536 := Nat.mod_mod_of_dvd _ (by rw [Nat.pow_succ]; exact Nat.dvd_mul_left _ _)
      rw [this]; exact h.1
    · have : m % 65536 ^ (k + 1) / 65536 = m / 65536 % 65536 ^ k := by
        rw [Nat.pow_succ, Nat.mul_comm, Nat.mod_mul_right_div_self]
      rw [this]; exact ih
  | k + 1, n + 1, _, [], h, _ => h.elim
theorem Dg.get {n m : Nat} {x : List UInt8} (h : Dg ρ n m x) (i : Nat) (hi : i < x.length) : ((x[i]).toNat : Int) = chVal ρ (dig m i) := by
  have hd := Dg.drop i h
  have e : x.drop i = x[i] :: x.drop (i + 1) := List.drop_eq_getElem_cons hi
  rw [e] at hd
  have hn := h.length
  have e2 : n - i = (n - i - 1) + 1 := by omega
  rw [e2] at hd
  have := hd.1
  unfold dig
  rw [shr16m, land16]
  exact this

theorem chr_ok (c : Nat) (n : Int) (h : n = chVal ρ c) : VR ρ ι (chr c) (.int .u8 n) := by
  unfold chr
  unfold chVal at h
  cases hb : Nat.blt c 256 with
  | true =>
    have : c < 256 := by simpa [Nat.blt_eq] using hb
    rw [if_pos this] at h
    subst h
    exact .int _ _
  | false =>
    have : ¬ c < 256 := by intro e; have : Nat.blt c 256 = true := by simpa [Nat.blt_eq] using e
                           rw [this] at hb; cases hb
    rw [if_neg this] at h
    subst h
    have := VR.sym (ρ := ρ) (ι := ι) .u8 (.atom (Nat.sub c 256))
    rw [Lin.eval_atom] at this
    exact this
theorem chLin_ok (c : Nat) : (chLin c).eval ρ = chVal ρ c := by
  unfold chLin chVal
  cases hb : Nat.blt c 256 with
  | true =>
    have : c < 256 := by simpa [Nat.blt_eq] using hb
    rw [if_pos this]
    simp [Lin.eval_of]
  | false =>
    have : ¬ c < 256 := by intro e; have : Nat.blt c 256 = true := by simpa [Nat.blt_eq] using e
                           rw [this] at hb; cases hb
    rw [if_neg this]
    exact Lin.eval_atom _
theorem chEq_ok {Γ : Ctx} (hΓ : Γ.ok ρ) {c d : Nat} {b : Bool} (h : chEq Γ c d = .ok b) : (chVal ρ c == chVal ρ d) = b := by
  unfold chEq at h
  cases h1 : Nat.beq c d with
  | true =>
    rw [h1] at h
    cases h
    have := Nat.eq_of_beq_eq_true h1
    subst this; simp
  | false =>
    rw [h1] at h
    simp only [cond_false] at h
    cases h2 : (Nat.blt c 256 && Nat.blt d 256) with
    | true =>
      rw [h2] at h
      cases h
      simp only [Bool.and_eq_true, Nat.blt_eq] at h2
      have hne : c ≠ d := fun e => by subst e; simp at h1
      unfold chVal
      rw [if_pos h2.1, if_pos h2.2]
      simp; omega
    | false =>
      rw [h2] at h
      simp only [cond_false] at h
      have := judge_ok hΓ h
      rw [Lin.eval_sub, chLin_ok, chLin_ok] at this
      rw [← this]
      simp only [Cmp.sem]
      rw [Bool.eq_iff_iff]; simp; omega

theorem strEq_ok {Γ : Ctx} (hΓ : Γ.ok ρ) : ∀ {n a b : Nat} {x y : List UInt8} {r : Bool}, strEq Γ n a b = .ok r → Dg ρ n a x → Dg ρ n b y → decide (x = y) = r
  | 0, a, b, [], [], r, h, _, _ => by cases h; rfl
  | n + 1, a, b, u :: x, v :: y, r, h, hx, hy => by
    unfold strEq at h
    rw [land16, land16, shr16, shr16] at h
    cases hc : chEq Γ (a % 65536) (b % 65536) with
    | no s => rw [hc] at h; cases h
    | ok q =>
      have e := chEq_ok hΓ hc
      rw [← hx.1, ← hy.1] at e
      rw [hc] at h
      cases q with
      | true =>
        have huv : u = v := by
          have : (u.toNat : Int) = v.toNat := by simpa using e
          exact UInt8.toNat_inj.1 (by omega)
        subst huv
        have := strEq_ok hΓ h hx.2 hy.2
        rw [← this]
        simp
      | false =>
        cases h
        have hne : u ≠ v := fun e' => by subst e'; simp at e
        simp [hne]
  | 0, _, _, _ :: _, _, _, _, h, _ => h.elim
  | 0, _, _, [], _ :: _, _, _, _, h => h.elim
  | _ + 1, _, _, [], _, _, _, h, _ => h.elim
  | _ + 1, _, _, _ :: _, [], _, _, _, h => h.elim
theorem Dg.same : ∀ {n a : Nat} {x y : List UInt8}, Dg ρ n a x → Dg ρ n a y → x = y
  | 0, a, [], [], _, _ => rfl
  | n + 1, a, u :: x, v :: y, hx, hy => by
    have : (u.toNat : Int) = v.toNat := hx.1.trans hy.1.symm
    have huv : u = v := UInt8.toNat_inj.1 (by omega)
    subst huv
    rw [Dg.same hx.2 hy.2]
  | 0, _, _ :: _, _, h, _ => h.elim
  | 0, _, [], _ :: _, _, h => h.elim
  | _ + 1, _, [], _, h, _ => h.elim
  | _ + 1, _, _ :: _, [], _, h => h.elim
theorem strEql_ok {Γ : Ctx} (hΓ : Γ.ok ρ) {l a m b : Nat} {s s' : ByteArray} {r : Bool} (h : strEql Γ l a m b = .ok r) (hx : SR ρ l a s) (hy : SR ρ m b s') :
    (s.toList == s'.toList) = r := by
  rw [ByteArray.toList_eq, ByteArray.toList_eq]
  unfold strEql at h
  cases h1 : Nat.beq l m with
  | false =>
    rw [h1] at h
    cases h
    have hne : l ≠ m := fun e => by subst e; simp at h1
    have h2 := Dg.length hx
    have h3 := Dg.length hy
    simp only [beq_eq_false_iff_ne, ne_eq]
    intro e
    rw [e] at h2
    omega
  | true =>
    have := Nat.eq_of_beq_eq_true h1
    subst this
    rw [h1] at h
    simp only [cond_true] at h
    cases h2 : Nat.beq a b with
    | true =>
      have := Nat.eq_of_beq_eq_true h2
      subst this
      rw [h2] at h
      cases h
      rw [Dg.same hx hy]; simp
    | false =>
      rw [h2] at h
      have := strEq_ok hΓ h hx hy
      rw [← this]
      rw [Bool.eq_iff_iff]
      simp

theorem SR.size {l n : Nat} {s : ByteArray} (h : SR ρ l n s) : s.size = l := by
  have := Dg.length h
  simpa using this
theorem SR.slice {len num l h : Nat} {s : ByteArray} (hs : SR ρ len num s) (h1 : l ≤ h) (h2 : h ≤ len) : SR ρ (Nat.sub h l) (strSlice num l h) (s.extract l h) := by
  unfold SR at *
  have e : (s.extract l h).data.toList = (s.data.toList.drop l).take (h - l) := by
    simp [ByteArray.data_extract, Array.toList_extract, List.extract_eq_take_drop]
  rw [e]
  unfold strSlice
  rw [shr16m]
  exact Dg.take (h - l) (Dg.drop l hs) (by omega)
theorem SR.append {l m l' n : Nat} {s s' : ByteArray} (hs : SR ρ l m s) (hs' : SR ρ l' n s') : SR ρ (Nat.add l l') (Nat.add m (Nat.mul (Nat.pow 65536 l) n)) (s ++ s') := by
  unfold SR at *
  have e : (s ++ s').data.toList = s.data.toList ++ s'.data.toList := by simp [ByteArray.data_append]
  rw [e]
  exact Dg.append hs hs'
theorem SR.index {len num : Nat} {s : ByteArray} (hs : SR ρ len num s) {i : Nat} (hi : i < len) : ∃ b, s[i]? = some b ∧ VR ρ ι (chr (dig num i)) (.int .u8 b.toNat) := by
  have hz := hs.size
  have hl := Dg.length hs
  refine ⟨s.data.toList[i], ?_, chr_ok _ _ (Dg.get hs i (by omega))⟩
  rw [ByteArray.getElem?_lt' s i (by omega)]
  congr 1

theorem cellsStr_ok : ∀ {n a : Nat} {x : List UInt8}, Dg ρ n a x → VRs ρ ι (cellsStr n a) (x.map fun b => .int .u8 b.toNat)
  | 0, _, [], _ => .nil
  | n + 1, a, b :: x, h => by
    unfold cellsStr
    rw [land16, shr16]
    exact .cons _ _ _ _ (chr_ok _ _ h.1) (cellsStr_ok h.2)
  | 0, _, _ :: _, h => h.elim
  | _ + 1, _, [], h => h.elim
theorem cellsStr_length : ∀ (n a : Nat), (cellsStr n a).length = n
  | 0, _ => rfl
  | n + 1, a => by simp [cellsStr, cellsStr_length n]

theorem digOf_ok {Γ : Ctx} (hΓ : Γ.ok ρ) {a : AV} {d : Nat} {v : Value} (h : digOf Γ a = .ok d) (hv : VR ρ ι a v) : ∃ b : UInt8, v = .int .u8 b.toNat ∧ (b.toNat : Int) = chVal ρ d ∧ d < 65536 := by
  have far : ∀ (i : Nat) (n : Int), (Γ.byte i && Nat.blt i 65000) = true → ρ i = n → ∃ b : UInt8, (Value.int .u8 n) = .int .u8 b.toNat ∧ (b.toNat : Int) = chVal ρ (Nat.add i 256) ∧ Nat.add i 256 < 65536 := by
    intro i n hb hn
    simp only [Bool.and_eq_true, Nat.blt_eq] at hb
    obtain ⟨hb, hi⟩ := hb
    unfold Ctx.byte at hb
    split at hb
    · rename_i lo hi' hx
      rw [nth_eq] at hx
      have := hΓ.box i lo hi' hx
      simp only [Bool.and_eq_true, decide_eq_true_eq] at hb
      have hl : 0 ≤ n := by omega
      have hu : n ≤ 255 := by omega
      have e : ((UInt8.ofNat n.toNat).toNat : Int) = n := by
        have : n.toNat < 256 := by omega
        simp [UInt8.toNat_ofNat', Nat.mod_eq_of_lt this]; omega
      refine ⟨UInt8.ofNat n.toNat, by rw [e], ?_, by show i + 256 < 65536; omega⟩
      rw [e]
      unfold chVal
      have : ¬ Nat.add i 256 < 256 := by show ¬ i + 256 < 256; omega
      rw [if_neg this]
      have : Nat.add i 256 - 256 = i := by show i + 256 - 256 = i; omega
      rw [this, hn]
    · cases hb
  cases a with
  | int k n =>
    cases hv
    cases k <;> try (cases h; done)
    cases n with
    | negSucc m => cases h
    | ofNat m =>
      simp only [digOf] at h
      cases hb : Nat.ble m 255 with
      | false => rw [hb] at h; cases h
      | true =>
        rw [hb] at h
        cases h
        have hm := Nat.le_of_ble_eq_true hb
        have e : (UInt8.ofNat d).toNat = d := by simp [UInt8.toNat_ofNat', Nat.mod_eq_of_lt (show d < 256 by omega)]
        refine ⟨UInt8.ofNat d, by rw [e]; rfl, ?_, by omega⟩
        rw [e]
        unfold chVal
        rw [if_pos (by omega)]
  | sym k e =>
    cases hv
    cases k <;> try (cases h; done)
    simp only [digOf] at h
    split at h
    · rename_i i
      cases hb : (Γ.byte i && Nat.blt i 65000) with
      | false => rw [hb] at h; cases h
      | true =>
        rw [hb] at h
        cases h
        exact far i _ hb (by simp [Lin.eval, termsEval])
    · split at h
      · rename_i i hl
        cases hb : ((Γ.byte i && Nat.blt i 65000) && Γ.fits .u8 e) with
        | false => rw [hb] at h; cases h
        | true =>
          rw [hb] at h
          cases h
          rw [Bool.and_eq_true] at hb
          have hw := look_ok hΓ hl
          simp only [Def.holds] at hw
          rw [fits_ok hΓ hb.2] at hw
          rw [hw]
          exact far i _ hb.1 (by simp [Lin.eval, termsEval])
      · cases h
  | _ => cases h
end Go.Proofs.YtoklobcagaolmaaGreatDoor.SE
end

noncomputable section
namespace Go.Proofs.YtoklobcagaolmaaGreatDoor.SE
variable {ρ : Val} {ι : Io}

theorem numBytes_ok {Γ : Ctx} (hΓ : Γ.ok ρ) : ∀ {l : List AV} {n : Nat} {r : List Value}, numBytes Γ l = .ok n → VRs ρ ι l r → ∃ bs : List UInt8, r = bs.map (fun b => Value.int .u8 b.toNat) ∧ Dg ρ l.length n bs
  | [], n, r, h, hv => by cases h; cases hv; exact ⟨[], rfl, rfl⟩
  | a :: l, n, r, h, hv => by
    unfold numBytes at h
    split at h
    · rename_i d hd
      split at h
      · rename_i m hm
        cases h
        cases hv with
        | cons _ _ v r h1 h2 =>
          obtain ⟨b, e, hb, hlt⟩ := digOf_ok hΓ hd h1
          obtain ⟨bs, e2, hbs⟩ := numBytes_ok hΓ hm h2
          subst e e2
          refine ⟨b :: bs, rfl, ?_⟩
          refine ⟨?_, ?_⟩
          · have : Nat.add d (Nat.mul 65536 m) % 65536 = d := by show (d + 65536 * m) % 65536 = d; omega
            rw [this]; exact hb
          · have : Nat.add d (Nat.mul 65536 m) / 65536 = m := by show (d + 65536 * m) / 65536 = m; omega
            rw [this]; exact hbs
      · cases h
    · cases h

/-! ## constants -/
theorem ofScalar_ok {v : Value} {a : AV} (h : ofScalar v = some a) : VR ρ ι a v ∧ v.oneCell' = true ∧ AV.cells a = some [a] := by
  unfold ofScalar at h
  split at h <;> first
    | (cases h; refine ⟨.str _ _ _ ?_, rfl, rfl⟩; rename_i s; have := Dg.numOf (ρ := ρ) s.data.toList; simpa [SR] using this)
    | (cases h; exact ⟨by constructor, rfl, rfl⟩)
    | cases h
theorem ofList_ok : ∀ {l : List Value} {r : List AV}, ofList l = some r → VRs ρ ι r l ∧ ∀ v ∈ l, v.oneCell' = true
  | [], r, h => by cases h; exact ⟨.nil, by simp⟩
  | v :: l, r, h => by
    unfold ofList at h
    split at h
    · rename_i a q h1 h2
      cases h
      have e1 := ofScalar_ok (ρ := ρ) (ι := ι) h1
      have e2 := ofList_ok h2
      exact ⟨.cons _ _ _ _ e1.1 e2.1, by intro x hx; rcases List.mem_cons.1 hx with rfl | hx; exact e1.2.1; exact e2.2 x hx⟩
    · cases h
theorem ofV_ok {v : Value} {a : AV} (h : ofV v = some a) : VR ρ ι a v := by
  unfold ofV at h
  split at h
  · rename_i cs
    split at h
    · rename_i l hl
      cases h
      have := ofList_ok (ρ := ρ) (ι := ι) hl
      exact .agg _ _ this.1 this.2
    · cases h
  · exact (ofScalar_ok h).1

/-- a value's cells -/
theorem cells_ok {a : AV} {v : Value} {l : List AV} (hv : VR ρ ι a v) (h : a.cells = some l) : VRs ρ ι l v.cells.toList ∧ ∀ x ∈ v.cells.toList, x.oneCell' = true := by
  cases hv <;> first
    | (cases h; exact ⟨.cons _ _ _ _ (by constructor <;> assumption) .nil, by simp [Value.cells, Value.oneCell']⟩)
    | (rename_i h1; cases h; exact ⟨by simpa [Value.cells] using ‹VRs ρ ι _ _›, by simpa [Value.cells] using h1⟩)
    | (cases h; done)
    | skip

/-! ## tables -/
structure Tab.ok (T : Tab) : Prop where
  ts : ∀ t i, T.ts.get t = some i → T.P.info? t = some i
  fs : ∀ f fn, T.fs.get f = some fn → T.P.funcs[f]? = some fn

section types
variable {T : Tab} (hT : T.ok) (w : World)
include hT
theorem info_ok {t : TypeId} {i : TypeInfo} (h : T.info t = some i) : T.P.info? t = some i := hT.ts t i h
theorem und_ok {t : TypeId} {d : TypeDesc} (h : T.und t = some d) : T.P.underlying t = some d := by
  unfold Tab.und at h
  split at h
  · rename_i i hi
    have hi' := info_ok hT hi
    unfold Program.underlying
    split at h
    · rename_i n u hd
      split at h
      · rename_i j hj
        cases h
        have hj' := info_ok hT hj
        rw [hi']
        obtain ⟨desc, _⟩ := i
        simp only at hd
        subst hd
        simp [hj']
      · cases h
    · rename_i hd
      cases h
      rw [hi']
      obtain ⟨desc, _⟩ := i
      simp only at hd ⊢
      split
      · rename_i n u _ _ _ _ _ _ _ _ _ e
        simp at e
        exact absurd e.1 (hd n u)
      · rename_i e
        simp at e
        rw [← e]
      · rename_i e; cases e
  · cases h
theorem run_info {t : TypeId} {i : TypeInfo} (h : T.info t = some i) : (typeInfo t).run T.P w = .ok i w := by
  simp [typeInfo, info_ok hT h]
theorem run_und {t : TypeId} {d : TypeDesc} (h : T.und t = some d) : (underlying t).run T.P w = .ok d w := by
  simp [underlying, und_ok hT h]
theorem run_size {t : TypeId} {n : Nat} (h : sizeT T t = some n) : (sizeOf t).run T.P w = .ok n w := by
  unfold sizeT at h
  split at h
  · rename_i i hi
    cases h
    simp [sizeOf, run_info hT w hi]
  · cases h
theorem run_isAgg {t : TypeId} {b : Bool} (h : isAggT T t = some b) : (isAgg t).run T.P w = .ok b w := by
  unfold isAggT at h
  unfold isAgg
  split at h
  · rename_i d hd; cases h; simp [run_und hT w hd]
  · rename_i n e hd; cases h; simp [run_und hT w hd]
  · rename_i d h1 h2 hd
    cases h
    simp only [Sem.run_bind, run_und hT w hd, Result.andThen_ok]
    cases d <;> first | rfl | exact absurd rfl (h1 _) | exact absurd rfl (h2 _ _)
  · cases h
theorem run_zero {t : TypeId} {l : List AV} (h : zeroOf T t = some l) : ∃ z, (zeroValue t).run T.P w = .ok z w ∧ VRs ρ ι l z.cells.toList ∧ ∀ x ∈ z.cells.toList, x.oneCell' = true := by
  unfold zeroOf at h
  split at h
  · rename_i i hi
    split at h
    · rename_i z hz
      split at h
      · rename_i a ha
        have := cells_ok (ρ := ρ) (ι := ι) (ofV_ok ha) h
        exact ⟨z, by simp [zeroValue, run_info hT w hi, hz], this⟩
      · cases h
    · cases h
  · cases h
end types
end Go.Proofs.YtoklobcagaolmaaGreatDoor.SE
end

noncomputable section
namespace Go.Proofs.YtoklobcagaolmaaGreatDoor.SE
variable {ρ : Val} {ι : Io}

/-- a frame's temporaries -/
structure AR (ρ : Val) (ι : Io) (tm : T AV) (a : Act) (nt : Nat) : Prop where
  tmps : TmR ρ ι tm a.tmps
  size : nt ≤ a.tmps.size

theorem undef_ok : VR ρ ι undefA undef := .tup [] #[] .nil

theorem R.val_eq {x : R AV} {v : AV} (h : x.val = .val v) : x = .ok v := by
  cases x with
  | ok a => cases h; rfl
  | no s => cases h
theorem elim_val {α : Type} {x : R α} {f : α → Step} {v : AV} (h : x.elim f .no = .val v) : ∃ a, x = .ok a ∧ f a = .val v := by
  cases x with
  | ok a => exact ⟨a, rfl, h⟩
  | no s => cases h
theorem opt_val {α : Type} {x : Option α} {s : String} {f : α → Step} {v : AV} (h : opt x (.no s) f = .val v) : ∃ a, x = some a ∧ f a = .val v := by
  cases x with
  | some a => exact ⟨a, rfl, h⟩
  | none => cases h
theorem ptr?_eq {v : AV} {p : Nat × Nat} (h : v.ptr? = some p) : v = .ptr p.1 p.2 := by
  cases v <;> first | (cases h; done) | (cases h; rfl)
theorem bool?_eq {v : AV} {b : Bool} (h : v.bool? = some b) : v = .bool b := by
  cases v <;> first | (cases h; done) | (cases h; rfl)
theorem int?_eq {v : AV} {p : IntKind × Int} (h : v.int? = some p) : v = .int p.1 p.2 := by
  cases v <;> first | (cases h; done) | (cases h; rfl)
theorem tup?_eq {v : AV} {l : List AV} (h : v.tup? = some l) : v = .tup l := by
  cases v <;> first | (cases h; done) | (cases h; rfl)
theorem agg?_eq {v : AV} {l : List AV} (h : v.agg? = some l) : v = .agg l := by
  cases v <;> first | (cases h; done) | (cases h; rfl)
theorem str?_eq {v : AV} {p : Nat × Nat} (h : v.str? = some p) : v = .str p.1 p.2 := by
  cases v <;> first | (cases h; done) | (cases h; rfl)
theorem func?_eq {v : AV} {p : FuncId × List AV × List AV} (h : v.func? = some p) : v = .func p.1 p.2.1 p.2.2 := by
  cases v <;> first | (cases h; done) | (cases h; rfl)
theorem sl?_eq {v : AV} {p : Nat × Nat × Nat} (h : v.sl? = some p) : ∃ c, v = .sl p.1 p.2.1 p.2.2 c := by
  cases v <;> first | (cases h; done) | (cases h; exact ⟨_, rfl⟩)
theorem nat?_eq {v : AV} {n : Nat} (h : v.nat? = some n) : ∃ k, v = .int k (Int.ofNat n) := by
  unfold AV.nat? at h
  obtain ⟨p, hp, h'⟩ := opt_eq_some h
  have := int?_eq hp
  obtain ⟨k, m⟩ := p
  cases m with
  | ofNat m => cases h'; exact ⟨k, this⟩
  | negSucc m => cases h'


section
variable {P : Program} {nx : Nat} {h : T AO} {w : World} {tm : T AV} {a : Act} {nt : Nat}
theorem ev_ok (hg : ∀ g, g < P.globals.size → ∃ sz, ι g = some ⟨g, 0, sz⟩) (ha : AR ρ ι tm a nt) {o : Operand} (ho : OperandOk P o) {x : AV} (he : ev tm o = .ok x) : VR ρ ι x (a.eval o) := by
  cases o with
  | tmp t =>
    have he' : opt (T.getW (wayOf t) tm) (R.no "a temporary that is not known") R.ok = R.ok x := he
    obtain ⟨v, hv, he'⟩ := opt_eq_ok he'
    cases he'
    exact ha.tmps t _ hv
  | const v =>
    have he' : opt (ofV v) (R.no "const") R.ok = R.ok x := he
    obtain ⟨b, hb, e⟩ := opt_eq_ok he'
    cases e
    exact ofV_ok hb
  | global g =>
    have he' : R.ok (AV.ptr g 0) = R.ok x := he
    cases he'
    obtain ⟨sz, hs⟩ := hg g (ho g rfl)
    exact .ptr g 0 _ hs
  | func f =>
    have he' : R.ok (AV.func f [] []) = R.ok x := he
    cases he'
    exact .func f [] [] #[] #[] .nil .nil
theorem evs_ok (hg : ∀ g, g < P.globals.size → ∃ sz, ι g = some ⟨g, 0, sz⟩) (ha : AR ρ ι tm a nt) : ∀ {l : List Operand} (_ : ∀ o ∈ l, OperandOk P o) {r : List AV}, evs tm l = .ok r → VRs ρ ι r (l.map a.eval)
  | [], _, r, he => by have he' : R.ok [] = R.ok r := he; cases he'; exact .nil
  | o :: l, ho, r, he => by
    have he' : (ev tm o).elim (fun a => (evs tm l).elim (fun l => R.ok (a :: l)) .no) .no = R.ok r := he
    obtain ⟨x, hx, e⟩ := R.elim_eq_ok he'
    obtain ⟨q, hq, e2⟩ := R.elim_eq_ok e
    cases e2
    exact .cons _ _ _ _ (ev_ok hg ha (ho o (by simp)) hx) (evs_ok hg ha (fun o' h' => ho o' (by simp [h'])) hq)

/-! ## reading memory -/
theorem ldN_ok (hr : HR ρ P ι nx h w) {id off n : Nat} {l : Loc} (hl : ι id = some l) {vs : List AV} (he : ldN h id off n = .ok vs) :
    ∃ r : List Value, (loadCells ⟨l.blk, l.sh + off, none⟩ n).run P w = .ok r.toArray w ∧ VRs ρ ι vs r ∧ (∀ v ∈ r, v.oneCell' = true) ∧ r.length = n := by
  unfold ldN at he
  obtain ⟨o, ho, he⟩ := opt_eq_ok he
  cases o with
  | map es c => cases he
  | loop _ _ _ _ _ _ => cases he
  | dfs _ => cases he
  | siter _ _ _ => cases he
  | cells elem mem ex wr mate =>
    have he' : opt (sub mem off n) (R.no "load: outside") R.ok = R.ok vs := he
    obtain ⟨q, hq, e⟩ := opt_eq_ok he'
    cases e
    obtain ⟨l', hl', hO⟩ := hr.obj id _ ho
    rw [hl] at hl'; cases hl'
    obtain ⟨cs, fz, h1, h2, h3, h4, h5, h6⟩ := hO.cells
    obtain ⟨hn, hvs⟩ := sub_some hq
    have hlen : ∀ j, j < n → off + j < mem.length := fun j hj => by omega
    have hval : ∀ j, j < n → ∃ v, cs[l.sh + (off + j)]? = some v ∧ VR ρ ι (mem[off + j]?.getD undefA) v ∧ v.oneCell' = true := fun j hj => by
      have hm : mem[off + j]? = some (mem[off + j]'(hlen j hj)) := List.getElem?_eq_getElem (hlen j hj)
      obtain ⟨v, e1, e2, e3⟩ := h6 (off + j) _ hm
      exact ⟨v, e1, by rw [hm]; exact e2, e3⟩
    let r := (cs.toList.drop (l.sh + off)).take n
    have hrlen : r.length = n := by
      show ((cs.toList.drop (l.sh + off)).take n).length = n
      rw [List.length_take, List.length_drop, Array.length_toList]
      by_cases hz : n = 0
      · omega
      · have := hlen (n - 1) (by omega)
        omega
    have hget : ∀ j, j < n → r[j]? = cs[l.sh + (off + j)]? := fun j hj => by
      show ((cs.toList.drop (l.sh + off)).take n)[j]? = _
      rw [List.getElem?_take, if_pos hj, List.getElem?_drop]
      simp [Nat.add_assoc]
    refine ⟨r, run_loadCells_at h1 n r hrlen ?_, ?_, ?_, hrlen⟩
    · intro j v hj
      have hj' : j < n := by
        rcases Nat.lt_or_ge j r.length with h' | h'
        · omega
        · simp [List.getElem?_eq_none h'] at hj
      rw [hget j hj'] at hj
      rw [Nat.add_assoc]; exact hj
    · subst hvs
      refine VRs.of_get ?_ ?_
      · rw [hrlen, List.length_take, List.length_drop]
        by_cases hz : n = 0
        · omega
        · have := hlen (n - 1) (by omega)
          omega
      · intro j x v hx hv
        have hj' : j < n := by
          rcases Nat.lt_or_ge j n with h' | h'
          · exact h'
          · rw [List.getElem?_take, if_neg (by omega)] at hx; cases hx
        rw [List.getElem?_take, if_pos hj', List.getElem?_drop] at hx
        rw [hget j hj'] at hv
        obtain ⟨v', e1, e2, _⟩ := hval j hj'
        rw [hv] at e1; cases e1
        rw [hx] at e2
        exact e2
    · intro v hv
      obtain ⟨j, hj⟩ := List.getElem?_of_mem hv
      have hj' : j < n := by
        rcases Nat.lt_or_ge j r.length with h' | h'
        · omega
        · simp [List.getElem?_eq_none h'] at hj
      rw [hget j hj'] at hj
      obtain ⟨v', e1, _, e3⟩ := hval j hj'
      rw [hj] at e1; cases e1; exact e3
theorem ld1_ok (hr : HR ρ P ι nx h w) {id off : Nat} {l : Loc} (hl : ι id = some l) {x : AV} (he : ld1 h id off = .ok x) :
    ∃ v : Value, (load ⟨l.blk, l.sh + off, none⟩).run P w = .ok v w ∧ VR ρ ι x v ∧ v.oneCell' = true := by
  unfold ld1 at he
  obtain ⟨o, ho, he⟩ := opt_eq_ok he
  cases o with
  | map es c => cases he
  | loop _ _ _ _ _ _ => cases he
  | dfs _ => cases he
  | siter _ _ _ => cases he
  | cells elem mem ex wr mate =>
    have he' : opt (nth mem off) (R.no "load: outside") R.ok = R.ok x := he
    obtain ⟨q, hq, e⟩ := opt_eq_ok he'
    cases e
    rw [nth_eq] at hq
    obtain ⟨l', hl', hO⟩ := hr.obj id _ ho
    rw [hl] at hl'; cases hl'
    obtain ⟨cs, fz, h1, h2, h3, h4, h5, h6⟩ := hO.cells
    obtain ⟨v, e1, e2, e3⟩ := h6 off x hq
    exact ⟨v, by simp [cell?_of h1, e1], e2, e3⟩
end
section
variable {T : Tab} (hT : T.ok) {nx : Nat} {h : SE.T AO} {w : World}
include hT
theorem ldT_ok (hr : HR ρ T.P ι nx h w) {t : TypeId} {id off : Nat} {l : Loc} (hl : ι id = some l) {x : AV} (he : ldT T h t id off = .ok x) :
    ∃ v : Value, (loadVar t ⟨l.blk, l.sh + off, none⟩).run T.P w = .ok v w ∧ VR ρ ι x v := by
  unfold ldT at he
  obtain ⟨b, hb, he⟩ := opt_eq_ok he
  have hagg := run_isAgg hT w hb
  cases b with
  | true =>
    simp only [bif2_true] at he
    obtain ⟨n, hn, he⟩ := opt_eq_ok he
    obtain ⟨vs, hvs, e⟩ := R.elim_eq_ok he
    cases e
    obtain ⟨r, h1, h2, h3, h4⟩ := ldN_ok hr hl hvs
    refine ⟨.agg r.toArray, ?_, .agg _ _ (by simpa using h2) (by simpa using h3)⟩
    simp [loadVar, hagg, run_size hT w hn, h1]
  | false =>
    simp only [bif2_false] at he
    obtain ⟨v, h1, h2, _⟩ := ld1_ok hr hl he
    exact ⟨v, by rw [loadVar]; simp only [Sem.run_bind, hagg, Result.andThen_ok]; exact h1, h2⟩
end
end Go.Proofs.YtoklobcagaolmaaGreatDoor.SE
end

noncomputable section
namespace Go.Proofs.YtoklobcagaolmaaGreatDoor.SE
variable {ρ : Val} {ι : Io}

/-- an operation that comes to a value and leaves the world alone -/
def Gives (P : Program) (w : World) (s : Sem Next) (ρ : Val) (ι : Io) (v : AV) : Prop := ∃ v', s.run P w = .ok (.value v') w ∧ VR ρ ι v v'
theorem gives_of {P : Program} {w : World} {s : Sem Value} {v : AV} (h : ∃ v', s.run P w = .ok v' w ∧ VR ρ ι v v') : Gives P w (do pure (.value (← s))) ρ ι v := by
  obtain ⟨v', h1, h2⟩ := h
  exact ⟨v', by simp [h1], h2⟩

structure Here (E : Env) (ρ : Val) (ι : Io) (nx : Nat) (h : T AO) (w : World) (tm : T AV) (a : Act) (nt : Nat) : Prop where
  tab : E.P.ok
  ctx : E.Γ.ok ρ
  rel : HR ρ E.P.P ι nx h w
  act : AR ρ ι tm a nt

section
variable {E : Env} {nx : Nat} {h : T AO} {w : World} {tm : T AV} {a : Act} {nt : Nat} (H : Here E ρ ι nx h w tm a nt) {o : Oper} {v : AV}
include H
theorem Here.ev {x : Operand} (ho : OperandOk E.P.P x) {y : AV} (he : SE.ev tm x = .ok y) : VR ρ ι y (a.eval x) := ev_ok H.rel.glob H.act ho he
theorem Here.evs {l : List Operand} (ho : ∀ x ∈ l, OperandOk E.P.P x) {r : List AV} (he : SE.evs tm l = .ok r) : VRs ρ ι r (l.map a.eval) := evs_ok H.rel.glob H.act ho he

theorem oMove_ok {x : Operand} (ho : OperandOk E.P.P x) (he : oMove x E tm h nx = .val v) : Gives E.P.P w (pure (.value (a.eval x))) ρ ι v :=
  ⟨_, rfl, H.ev ho (R.val_eq he)⟩
theorem oPick_ok {c x y : Operand} (hc : OperandOk E.P.P c) (hx : OperandOk E.P.P x) (hy : OperandOk E.P.P y) (he : oPick c x y E tm h nx = .val v) :
    Gives E.P.P w (do pure (.value (if ← asBool (a.eval c) then a.eval x else a.eval y))) ρ ι v := by
  unfold oPick at he
  obtain ⟨q, hq, he⟩ := elim_val he
  obtain ⟨b, hb, he⟩ := opt_val he
  have h1 := H.ev hc hq
  rw [bool?_eq hb] at h1
  generalize hcv : a.eval c = cv at h1
  cases h1
  cases b with
  | true => exact ⟨_, by simp [asBool], H.ev hx (R.val_eq he)⟩
  | false => exact ⟨_, by simp [asBool], H.ev hy (R.val_eq he)⟩
theorem oNil_ok {x : Operand} (ho : OperandOk E.P.P x) (hop : o.op = .nilCheck x) (he : oNil x E tm h nx = .val v) : Gives E.P.P w (execOp a.eval o) ρ ι v := by
  unfold oNil at he
  obtain ⟨q, hq, he⟩ := elim_val he
  have h1 := H.ev ho hq
  unfold execOp
  rw [hop]
  cases hp : q.ptr? with
  | some p =>
    rw [hp] at he
    cases he
    rw [ptr?_eq hp] at h1 ⊢
    generalize hcv : a.eval x = cv at h1
    cases h1
    rename_i l hl
    exact ⟨_, by simp [hcv], .ptr _ _ _ hl⟩
  | none =>
    rw [hp] at he
    simp only [opt_none] at he
    obtain ⟨p, hp2, he⟩ := opt_val he
    cases he
    rw [func?_eq hp2] at h1 ⊢
    generalize hcv : a.eval x = cv at h1
    cases h1
    rename_i a' b' ha hb
    exact ⟨_, by simp [hcv], .func _ _ _ _ _ ha hb⟩
theorem oLoad_ok {t : TypeId} {x : Operand} (ho : OperandOk E.P.P x) (he : oLoad t x E tm h nx = .val v) :
    Gives E.P.P w (do pure (.value (← Instr.loadAt t (a.eval x)))) ρ ι v := by
  unfold oLoad at he
  obtain ⟨q, hq, he⟩ := elim_val he
  obtain ⟨p, hp, he⟩ := opt_val he
  have h1 := H.ev ho hq
  rw [ptr?_eq hp] at h1
  generalize hcv : a.eval x = cv at h1
  cases h1
  rename_i l hl
  obtain ⟨v', hv', hr⟩ := ldT_ok H.tab H.rel hl (R.val_eq he)
  exact gives_of ⟨v', by simp [Instr.loadAt, Instr.sureAddr, hv'], hr⟩
theorem oExtract_ok {x : Operand} {i : Nat} (ho : OperandOk E.P.P x) (he : oExtract x i E tm h nx = .val v) :
    Gives E.P.P w (do pure (.value (← Instr.extract (a.eval x) i))) ρ ι v := by
  unfold oExtract at he
  obtain ⟨q, hq, he⟩ := elim_val he
  obtain ⟨l, hl, he⟩ := opt_val he
  obtain ⟨y, hy, he⟩ := opt_val he
  cases he
  have h1 := H.ev ho hq
  rw [tup?_eq hl] at h1
  generalize hcv : a.eval x = cv at h1
  cases h1
  rename_i cs hs
  rw [nth_eq] at hy
  obtain ⟨v', hv', hr⟩ := hs.get i v hy
  have : cs[i]? = some v' := by simpa using hv'
  exact gives_of ⟨v', by simp [Instr.extract, this], hr⟩
theorem oFieldAddr_ok {t : TypeId} {x : Operand} {f : Nat} (ho : OperandOk E.P.P x) (he : oFieldAddr t x f E tm h nx = .val v) :
    Gives E.P.P w (do pure (.value (← Instr.fieldAt t (a.eval x) f))) ρ ι v := by
  unfold oFieldAddr at he
  obtain ⟨q, hq, he⟩ := elim_val he
  obtain ⟨p, hp, he⟩ := opt_val he
  obtain ⟨off, hoff, he⟩ := opt_val he
  cases he
  have h1 := H.ev ho hq
  rw [ptr?_eq hp] at h1
  generalize hcv : a.eval x = cv at h1
  cases h1
  rename_i l hl
  unfold fieldOff at hoff
  split at hoff
  · rename_i fs hfs
    split at hoff
    · rename_i fld hfld
      split at hoff
      · rename_i n hn
        cases hoff
        have hsz := run_size H.tab w hn
        refine gives_of ⟨.pointer (some ⟨l.blk, l.sh + (p.2 + fld.offset), none⟩), ?_, .ptr _ _ l hl⟩
        simp [Instr.fieldAt, run_und H.tab w hfs, hfld, Instr.sureAddr, fieldPlace, hsz, addr_add, Nat.add_assoc]
      · cases hoff
    · cases hoff
  · cases hoff
theorem part_ok {t : TypeId} {l : List AV} {cs : Array Value} {off : Nat} (hs : VRs ρ ι l cs.toList) (hc : ∀ x ∈ cs.toList, x.oneCell' = true) (he : partA E.P t l off = .ok v) :
    ∃ v', (part t cs off).run E.P.P w = .ok v' w ∧ VR ρ ι v v' := by
  unfold partA at he
  obtain ⟨b, hb, he⟩ := opt_eq_ok he
  have hagg := run_isAgg H.tab w hb
  cases b with
  | true =>
    simp only [bif2_true] at he
    obtain ⟨n, hn, he⟩ := opt_eq_ok he
    obtain ⟨q, hq, he⟩ := opt_eq_ok he
    cases he
    obtain ⟨h1, h2⟩ := sub_some hq
    subst h2
    refine ⟨.agg (cs.extract off (off + n)), ?_, .agg _ _ ?_ ?_⟩
    · simp [part, hagg, run_size H.tab w hn]
    · rw [Array.toList_extract, List.extract_eq_take_drop]
      have : off + n - off = n := by omega
      rw [this]
      exact (hs.drop off).take n
    · intro x hx
      rw [Array.toList_extract, List.extract_eq_take_drop] at hx
      exact hc x (List.mem_of_mem_drop (List.mem_of_mem_take hx))
  | false =>
    simp only [bif2_false] at he
    obtain ⟨q, hq, he⟩ := opt_eq_ok he
    cases he
    rw [nth_eq] at hq
    obtain ⟨v', hv', hr⟩ := hs.get off v hq
    have : cs[off]? = some v' := by simpa using hv'
    exact ⟨v', by simp [part, hagg, this], hr⟩
theorem oField_ok {t : TypeId} {x : Operand} {f : Nat} (ho : OperandOk E.P.P x) (he : oField t x f E tm h nx = .val v) :
    Gives E.P.P w (do pure (.value (← Instr.field t (a.eval x) f))) ρ ι v := by
  unfold oField at he
  split at he
  · rename_i fs cs hfs hq
    split at he
    · rename_i fld hfld
      have h1 := H.ev ho hq
      generalize hcv : a.eval x = cv at h1
      cases h1 with
      | agg _ cs' hs hc =>
      obtain ⟨v', hv', hr⟩ := part_ok H hs hc (R.val_eq he)
      exact gives_of ⟨v', by simp [Instr.field, run_und H.tab w hfs, hfld, asAgg, hv'], hr⟩
    · cases he
  · cases he
theorem oIndexAddr_ok {t : TypeId} {x i : Operand} (ho : OperandOk E.P.P x) (hi : OperandOk E.P.P i) (he : oIndexAddr t x i E tm h nx = .val v) :
    Gives E.P.P w (do pure (.value (← Instr.indexAt t (a.eval x) (a.eval i)))) ρ ι v := by
  unfold oIndexAddr at he
  obtain ⟨q, hq, he⟩ := elim_val he
  obtain ⟨j, hj, he⟩ := elim_val he
  obtain ⟨n, hn, he⟩ := opt_val he
  have he := R.val_eq he
  have h1 := H.ev ho hq
  have h2 := H.ev hi hj
  obtain ⟨k, hk⟩ := nat?_eq hn
  rw [hk] at h2
  generalize hcj : a.eval i = cj at h2
  cases h2
  unfold indexAddrA at he
  obtain ⟨kn, hkn, he⟩ := opt_eq_ok he
  unfold elemT at hkn
  split at hkn
  · rename_i e hd
    split at hkn
    · rename_i sz hsz
      cases hkn
      simp only [opt_none] at he
      obtain ⟨s, hs, he⟩ := opt_eq_ok he
      obtain ⟨hlt, he⟩ := bif2_eq_ok he
      cases he
      have hlt := Nat.le_of_ble_eq_true hlt
      obtain ⟨c, hc⟩ := sl?_eq hs
      rw [hc] at h1
      have hlt' : n < s.2.2 := hlt
      obtain ⟨id, off, len⟩ := s
      simp only at h1 hlt' hlt ⊢
      generalize hcv : a.eval x = cv at h1
      have key : ∀ (l : Loc) (cap : Nat), cv = .slice (some ⟨l.blk, l.sh + off, none⟩) len cap → ι id = some l →
          Gives E.P.P w (do pure (.value (← Instr.indexAt t cv (.int k (Int.ofNat n))))) ρ ι (.ptr id (Nat.add off (Nat.mul n sz))) := by
        intro l cap hcv' hl
        subst hcv'
        refine gives_of ⟨.pointer (some ⟨l.blk, l.sh + (off + n * sz), none⟩), ?_, .ptr _ _ l hl⟩
        have hb : (0 : Int) ≤ Int.ofNat n ∧ (Int.ofNat n : Int) < (len : Int) := by simp; omega
        simp only [Instr.indexAt, asIntOf, Sem.run_bind, Sem.run_pure, Result.andThen_ok, run_und H.tab w hd]
        simp only [hb, and_self, if_true, Sem.run_bind, run_size H.tab w hsz, Result.andThen_ok, Sem.run_pure, addr_add]
        simp [Nat.add_assoc]
      cases h1
      · rename_i l hl; exact key l _ rfl hl
      · rename_i c l hl hc hb; exact key l _ rfl hl
      · omega
    · cases hkn
  · rename_i kk e hd
    split at hkn
    · rename_i sz hsz
      cases hkn
      simp only [opt_some] at he
      obtain ⟨p, hp, he⟩ := opt_eq_ok he
      obtain ⟨hlt, he⟩ := bif2_eq_ok he
      cases he
      have hlt := Nat.le_of_ble_eq_true hlt
      have hlt' : n < kk := hlt
      rw [ptr?_eq hp] at h1
      generalize hcv : a.eval x = cv at h1
      cases h1
      rename_i l hl
      refine gives_of ⟨.pointer (some ⟨l.blk, l.sh + (p.2 + n * sz), none⟩), ?_, .ptr _ _ l hl⟩
      have hb : (0 : Int) ≤ Int.ofNat n ∧ (Int.ofNat n : Int) < (kk : Int) := by simp; omega
      simp only [Instr.indexAt, asIntOf, Sem.run_bind, Sem.run_pure, Result.andThen_ok, run_und H.tab w hd, Instr.sureAddr]
      simp only [hb, and_self, if_true, Sem.run_bind, run_size H.tab w hsz, Result.andThen_ok, Sem.run_pure, addr_add]
      simp [Nat.add_assoc]
    · cases hkn
  · cases hkn
end
end Go.Proofs.YtoklobcagaolmaaGreatDoor.SE
end

noncomputable section
namespace Go.Proofs.YtoklobcagaolmaaGreatDoor.SE
variable {ρ : Val} {ι : Io}

/-! ## parts of a struct, laid -/
inductive PartsR (ρ : Val) (ι : Io) : List (Nat × AV) → List (Nat × Value) → Prop
  | nil : PartsR ρ ι [] []
  | cons (i : Nat) (a : AV) (v : Value) (l : List (Nat × AV)) (r : List (Nat × Value)) (h : VR ρ ι a v) (hs : PartsR ρ ι l r) : PartsR ρ ι ((i, a) :: l) ((i, v) :: r)

theorem evParts_ok {P : Program} {tm : T AV} {a : Act} {nt : Nat} (hg : ∀ g, g < P.globals.size → ∃ sz, ι g = some ⟨g, 0, sz⟩) (ha : AR ρ ι tm a nt) :
    ∀ {l : List (Nat × Operand)} (_ : ∀ p ∈ l, OperandOk P p.2) {r : List (Nat × AV)}, evParts tm l = .ok r → PartsR ρ ι r (l.map fun (i, x) => (i, a.eval x))
  | [], _, r, he => by have he' : R.ok [] = R.ok r := he; cases he'; exact .nil
  | p :: l, ho, r, he => by
    have he' : (ev tm p.2).elim (fun a => (evParts tm l).elim (fun l => R.ok ((p.1, a) :: l)) .no) .no = R.ok r := he
    obtain ⟨x, hx, e⟩ := R.elim_eq_ok he'
    obtain ⟨q, hq, e2⟩ := R.elim_eq_ok e
    cases e2
    exact .cons _ _ _ _ _ (ev_ok hg ha (ho p (by simp)) hx) (evParts_ok hg ha (fun o' h' => ho o' (by simp [h'])) hq)

theorem lenIs_eq : ∀ {α : Type} (l : List α) (n : Nat), lenIs l n = true → l.length = n
  | _, [], n, h => by have h' : Nat.beq n 0 = true := h; have := Nat.eq_of_beq_eq_true h'; subst this; rfl
  | _, x :: l, n, h => by
    have h' : bif2 (Nat.beq n 0) false (lenIs l (Nat.sub n 1)) = true := h
    cases n with
    | zero => cases h'
    | succ n =>
      have h2 : lenIs l n = true := h'
      simp [lenIs_eq l n h2]

theorem fold_set (off : Nat) : ∀ (l : List Value) (k : Nat) (cs : Array Value), off + k + l.length ≤ cs.size →
    (l.zipIdx k).foldl (fun cs (p : Value × Nat) => cs.setIfInBounds (off + p.2) p.1) cs = (cs.toList.take (off + k) ++ l ++ cs.toList.drop (off + k + l.length)).toArray
  | [], k, cs, h => by simp
  | v :: l, k, cs, h => by
    simp only [List.length_cons] at h
    rw [List.zipIdx_cons, List.foldl_cons, fold_set off l (k + 1) _ (by simp; omega)]
    congr 1
    simp only [Array.toList_setIfInBounds]
    have hl : cs.toList.length = cs.size := Array.length_toList
    have hset : cs.toList.set (off + k) v = cs.toList.take (off + k) ++ (v :: cs.toList.drop (off + k + 1)) := by
      rw [List.set_eq_take_append_cons_drop, if_pos (by omega)]
    have ht : (cs.toList.take (off + k)).length = off + k := by rw [List.length_take]; omega
    have e1 : (cs.toList.set (off + k) v).take (off + (k + 1)) = cs.toList.take (off + k) ++ [v] := by
      rw [hset, List.take_append, ht]
      have : off + (k + 1) - (off + k) = 1 := by omega
      rw [this, List.take_of_length_le (by omega)]
      rfl
    have e2 : (cs.toList.set (off + k) v).drop (off + (k + 1) + l.length) = cs.toList.drop (off + k + (v :: l).length) := by
      rw [hset, List.drop_append, ht, List.drop_of_length_le (by omega)]
      have : off + (k + 1) + l.length - (off + k) = l.length + 1 := by omega
      rw [this, List.drop_succ_cons, List.drop_drop, List.nil_append]
      congr 1
      simp only [List.length_cons]
      omega
    rw [e1, e2]
    simp

theorem fill_ok {place place' : Nat → Option (Nat × Nat)} (hp : ∀ i q, place i = some q → place' i = some q) : ∀ {l : List (Nat × AV)} {r : List (Nat × Value)} (_ : PartsR ρ ι l r) {c d : List AV} {cs : Array Value}
    (_ : VRs ρ ι c cs.toList) (_ : ∀ x ∈ cs.toList, x.oneCell' = true), fillA place c l = .ok d →
    ∃ ds, Instr.fill place' cs r = some ds ∧ VRs ρ ι d ds.toList ∧ (∀ x ∈ ds.toList, x.oneCell' = true) ∧ d.length = c.length
  | _, _, .nil, c, d, cs, h1, h2, he => by
    have he' : R.ok c = R.ok d := he
    cases he'
    exact ⟨cs, rfl, h1, h2, rfl⟩
  | _, _, .cons i a v l r h hs, c, d, cs, h1, h2, he => by
    have he' : (opt (place i) (R.no "fill: place") fun q => opt a.cells (R.no "fill: a tuple") fun e => bif2 (lenIs e q.2) (opt (splice c q.1 e) (R.no "fill") (fun c => fillA place c l)) (R.no "fill: size")) = R.ok d := he
    obtain ⟨q, hq, he'⟩ := opt_eq_ok he'
    obtain ⟨e, hcell, he'⟩ := opt_eq_ok he'
    obtain ⟨hlen, he'⟩ := bif2_eq_ok he'
    obtain ⟨c', hc', he'⟩ := opt_eq_ok he'
    have hlen := lenIs_eq _ _ hlen
    obtain ⟨hv1, hv2⟩ := cells_ok h hcell
    have hvl := hv1.length
    obtain ⟨hb, hc''⟩ := splice_some _ _ _ _ hc'
    have hcl := h1.length
    have hvs : v.cells.size = q.2 := by rw [← Array.length_toList, ← hvl, hlen]
    have hcs : cs.size = c.length := by rw [← Array.length_toList, hcl]
    have hfold : v.cells.zipIdx.foldl (fun cs (p : Value × Nat) => cs.setIfInBounds (q.1 + p.2) p.1) cs = (cs.toList.take q.1 ++ v.cells.toList ++ cs.toList.drop (q.1 + v.cells.toList.length)).toArray := by
      rw [← Array.foldl_toList, Array.toList_zipIdx]
      have := fold_set q.1 v.cells.toList 0 cs (by rw [Array.length_toList]; omega)
      simpa using this
    have hnew : VRs ρ ι c' (cs.toList.take q.1 ++ v.cells.toList ++ cs.toList.drop (q.1 + v.cells.toList.length)) := by
      rw [hc'', ← hvl]
      exact ((h1.take _).append hv1).append (h1.drop _)
    have hone : ∀ x ∈ (cs.toList.take q.1 ++ v.cells.toList ++ cs.toList.drop (q.1 + v.cells.toList.length)), x.oneCell' = true := by
      intro x hx
      rcases List.mem_append.1 hx with hx | hx
      · rcases List.mem_append.1 hx with hx | hx
        · exact h2 x (List.mem_of_mem_take hx)
        · exact hv2 x hx
      · exact h2 x (List.mem_of_mem_drop hx)
    obtain ⟨ds, f1, f2, f3, f4⟩ := fill_ok hp hs (cs := (cs.toList.take q.1 ++ v.cells.toList ++ cs.toList.drop (q.1 + v.cells.toList.length)).toArray) (by simpa using hnew) (by simpa using hone) he'
    refine ⟨ds, ?_, f2, f3, by rw [f4, splice_length hc']⟩
    obtain ⟨off, size⟩ := q
    have hplace := hp i _ hq
    simp only at hvs hfold hb
    unfold Instr.fill
    rw [hplace]
    simp only
    have hcond : ¬ ((decide (v.cells.size ≠ size) || decide (off + v.cells.size > cs.size)) = true) := by
      simp
      refine ⟨hvs, by omega⟩
    rw [if_neg hcond, hfold]
    exact f1
end Go.Proofs.YtoklobcagaolmaaGreatDoor.SE
end

noncomputable section
namespace Go.Proofs.YtoklobcagaolmaaGreatDoor.SE
variable {ρ : Val} {ι : Io}

theorem run_places {T : Tab} (hT : T.ok) (w : World) : ∀ {fs : List Field} {l : List (Nat × Nat)}, placesA T fs = some l →
    (fs.mapM (m := Sem) (fun f => do pure (f.offset, ← sizeOf f.type))).run T.P w = .ok l w
  | [], l, h => by cases h; rfl
  | f :: r, l, h => by
    unfold placesA at h
    split at h
    · rename_i n hn
      split at h
      · rename_i q hq
        cases h
        have := run_places hT w hq
        simp only [List.mapM_cons, Sem.run_bind, run_size hT w hn, Result.andThen_ok, Sem.run_pure, this]
      · cases h
    · cases h

section
variable {E : Env} {nx : Nat} {h : T AO} {w : World} {tm : T AV} {a : Act} {nt : Nat} (H : Here E ρ ι nx h w tm a nt) {o : Oper} {v : AV}
include H

theorem oBuild_ok {t : TypeId} {parts : Array (Nat × Operand)} (ho : ∀ p ∈ parts.toList, OperandOk E.P.P p.2) (he : oBuild t parts E tm h nx = .val v) :
    Gives E.P.P w (do pure (.value (← Instr.build t (parts.map fun (i, x) => (i, a.eval x))))) ρ ι v := by
  unfold oBuild at he
  obtain ⟨l, hl, he⟩ := elim_val he
  have he := R.val_eq he
  have hp := evParts_ok H.rel.glob H.act ho hl
  unfold buildA at he
  obtain ⟨z, hz, he⟩ := opt_eq_ok he
  obtain ⟨zv, hz1, hz2, hz3⟩ := run_zero (ρ := ρ) (ι := ι) H.tab w hz
  have hparts : (parts.map fun (i, x) => (i, a.eval x)).toList = parts.toList.map fun (i, x) => (i, a.eval x) := Array.toList_map ..
  cases hps : placesT E.P t with
  | some ps =>
    rw [hps] at he
    simp only [opt_some] at he
    obtain ⟨c, hc, he⟩ := R.elim_eq_ok he
    cases he
    unfold placesT at hps
    split at hps
    · rename_i fs hfs
      have hrun := run_places H.tab w hps
      obtain ⟨ds, f1, f2, f3, _⟩ := fill_ok (place := nth ps) (place' := fun i : Nat => ps[i]?) (fun i q hq => by rw [nth_eq] at hq; exact hq) hp hz2 hz3 hc
      refine gives_of ⟨.agg ds, ?_, .agg _ _ f2 f3⟩
      rw [← hparts] at f1
      have hmap : (fs.mapM (m := Sem) (fun f => do pure (f.offset, ← sizeOf f.type))).run E.P.P w = .ok ps.toArray w := by
        rw [Array.mapM_eq_mapM_toList]
        simp only [Sem.run_map, hrun, Result.andThen_ok]
      have f1' : Instr.fill (fun i : Nat => ps.toArray[i]?) zv.cells (parts.map fun (i, x) => (i, a.eval x)).toList = some ds := by
        have : (fun i : Nat => ps.toArray[i]?) = fun i : Nat => ps[i]? := by funext i; simp
        rw [this]; exact f1
      simp only [Instr.build, Sem.run_bind, hz1, Result.andThen_ok, run_und H.tab w hfs, hmap, f1', Sem.run_pure]
    · cases hps
  | none =>
    rw [hps] at he
    simp only [opt_none] at he
    obtain ⟨n, hn, he⟩ := opt_eq_ok he
    obtain ⟨c, hc, he⟩ := R.elim_eq_ok he
    cases he
    unfold arrayT at hn
    split at hn
    · rename_i k e hd
      obtain ⟨ds, f1, f2, f3, _⟩ := fill_ok (place' := fun i => some (i * n, n)) (fun i q hq => hq) hp hz2 hz3 hc
      refine gives_of ⟨.agg ds, ?_, .agg _ _ f2 f3⟩
      rw [← hparts] at f1
      simp only [Instr.build, Sem.run_bind, hz1, Result.andThen_ok, run_und H.tab w hd, run_size H.tab w hn, f1, Sem.run_pure]
    · cases hn

/-! ## == -/
theorem ptrEq_ok {id x id' y : Nat} {b : Bool} {v1 v2 : Value} (he : ptrEq h id x id' y = .ok b) (h1 : VR ρ ι (.ptr id x) v1) (h2 : VR ρ ι (.ptr id' y) v2) :
    ∃ a1 a2, v1 = .pointer (some a1) ∧ v2 = .pointer (some a2) ∧ (sameAddr a1 a2).run E.P.P w = .ok b w := by
  generalize hp : AV.ptr id x = p at h1
  generalize hq : AV.ptr id' y = q at h2
  cases h1 <;> cases hp
  cases h2 <;> cases hq
  rename_i l hl l' hl'
  refine ⟨_, _, rfl, rfl, ?_⟩
  unfold ptrEq at he
  cases hb : Nat.beq id id' with
  | true =>
    rw [hb] at he
    cases he
    have := Nat.eq_of_beq_eq_true hb
    subst this
    rw [hl] at hl'; cases hl'
    have e : Nat.beq x y = ((⟨l.blk, l.sh + x, none⟩ : Addr) == ⟨l.blk, l.sh + y, none⟩) := by
      rw [Bool.eq_iff_iff]; simp
    rw [e]
    simp [sameAddr]
  | false =>
    rw [hb] at he
    simp only [cond_false] at he
    split at he
    · rename_i e1 m1 e2 m2 g1 g2
      split at he
      · rename_i q1 q2 n1 n2
        cases he
        obtain ⟨k1, hk1, o1⟩ := H.rel.obj _ _ g1
        obtain ⟨k2, hk2, o2⟩ := H.rel.obj _ _ g2
        rw [hl] at hk1; cases hk1
        rw [hl'] at hk2; cases hk2
        have hne : l.blk ≠ l'.blk := by
          intro e
          have hid : id ≠ id' := fun e' => by subst e'; simp at hb
          have := (H.rel.apart id id' _ _ l l' hid g1 g2 hl hl' e).1
          cases this
        obtain ⟨cs1, fz1, c1, c2, c3, c4, c5, _⟩ := o1.cells
        obtain ⟨cs2, fz2, d1, d2, d3, d4, d5, _⟩ := o2.cells
        have z1 := c5 rfl
        have z2 := d5 rfl
        have l1 : x < m1.length := by
          rw [nth_eq] at n1
          rcases Nat.lt_or_ge x m1.length with h' | h'
          · exact h'
          · simp [List.getElem?_eq_none h'] at n1
        have l2 : y < m2.length := by
          rw [nth_eq] at n2
          rcases Nat.lt_or_ge y m2.length with h' | h'
          · exact h'
          · simp [List.getElem?_eq_none h'] at n2
        have f1 : ∀ o, o ≤ l.sz → w.frozen? ⟨l.blk, o, none⟩ = false := fun o ho => by
          rw [frozen?_of c1]
          rw [z1.2 rfl]
          simp
        have f2 : ∀ o, o ≤ l'.sz → w.frozen? ⟨l'.blk, o, none⟩ = false := fun o ho => by
          rw [frozen?_of d1]
          rw [z2.2 rfl]
          simp
        have hbf : (l.blk == l'.blk) = false := by simpa using hne
        have s1 : w.shape? l.blk = some (e1, cs1.size) := by simp [World.shape?, c1]
        have s2 : w.shape? l'.blk = some (e2, cs2.size) := by simp [World.shape?, d1]
        have g1' : w.frozen? ⟨l.blk, l.sh + x, none⟩ = false := f1 _ (by omega)
        have g2' : w.frozen? ⟨l'.blk, l'.sh + y, none⟩ = false := f2 _ (by omega)
        have g3 : w.frozen? { block := l.blk, off := cs1.size } = false := f1 _ (by omega)
        have g4 : w.frozen? { block := l'.blk, off := cs2.size } = false := f2 _ (by omega)
        have v1 : (noView ⟨l.blk, l.sh + x, none⟩).run E.P.P w = .ok () w := by simp [noView, viewAt, s1]
        have v2 : (noView ⟨l'.blk, l'.sh + y, none⟩).run E.P.P w = .ok () w := by simp [noView, viewAt, s2]
        have t1 : (stringish ⟨l.blk, l.sh + x, none⟩).run E.P.P w = .ok false w := by simp [stringish, g1', s1, g3]
        have t2 : (stringish ⟨l'.blk, l'.sh + y, none⟩).run E.P.P w = .ok false w := by simp [stringish, g2', s2, g4]
        have m : (mayBeOne ⟨l.blk, l.sh + x, none⟩ ⟨l'.blk, l'.sh + y, none⟩).run E.P.P w = .ok false w := by
          simp [mayBeOne, t1, t2, s2]
        simp only [sameAddr, hbf, Bool.false_eq_true, if_false, Sem.run_bind, run_frozen, g1', g2', Result.andThen_ok, v1, v2, m, Bool.and_self, Sem.run_pure]
      · cases he
    · cases he

theorem eqFields_ok {eq : TypeId → AV → AV → R Bool} {D : Nat} (heq : ∀ t x y b v1 v2, eq t x y = .ok b → VR ρ ι x v1 → VR ρ ι y v2 → (Op.equalIn D t v1 v2).run E.P.P w = .ok b w) :
    ∀ (fs : List Field) {xs ys : List AV} {cs ds : Array Value} {b : Bool}, eqFieldsA E.P eq fs xs ys = .ok b → VRs ρ ι xs cs.toList → (∀ v ∈ cs.toList, v.oneCell' = true) → VRs ρ ι ys ds.toList → (∀ v ∈ ds.toList, v.oneCell' = true) →
    (Op.eqFields D cs ds fs).run E.P.P w = .ok b w
  | [], _, _, _, _, b, he, _, _, _, _ => by cases he; rfl
  | f :: fs, xs, ys, cs, ds, b, he, h1, h2, h3, h4 => by
    unfold eqFieldsA at he
    split at he
    · cases he
    · rename_i hname
      split at he
      · rename_i x y hx hy
        obtain ⟨v1, r1, q1⟩ := part_ok H h1 h2 hx
        obtain ⟨v2, r2, q2⟩ := part_ok H h3 h4 hy
        unfold Op.eqFields
        rw [if_pos hname]
        simp only [Sem.run_bind, r1, r2, Result.andThen_ok]
        split at he
        · rename_i hq
          simp only [heq _ _ _ _ _ _ hq q1 q2, Result.andThen_ok, Bool.not_true, Bool.false_eq_true, if_false]
          exact eqFields_ok heq fs he h1 h2 h3 h4
        · rename_i hq
          cases b with
          | true => exact absurd he hq
          | false => simp [heq _ _ _ _ _ _ he q1 q2]
      · cases he
theorem eqElems_ok {eq : TypeId → AV → AV → R Bool} {D : Nat} (heq : ∀ t x y b v1 v2, eq t x y = .ok b → VR ρ ι x v1 → VR ρ ι y v2 → (Op.equalIn D t v1 v2).run E.P.P w = .ok b w)
    {e : TypeId} {n : Nat} {xs ys : List AV} {cs ds : Array Value} (h1 : VRs ρ ι xs cs.toList) (h2 : ∀ v ∈ cs.toList, v.oneCell' = true) (h3 : VRs ρ ι ys ds.toList) (h4 : ∀ v ∈ ds.toList, v.oneCell' = true) :
    ∀ (k i : Nat) {b : Bool}, eqElemsA E.P eq e n xs ys k i = .ok b → (Op.eqItems D e n cs ds (List.range' i k)).run E.P.P w = .ok b w
  | 0, i, b, he => by cases he; rfl
  | k + 1, i, b, he => by
    unfold eqElemsA at he
    rw [List.range'_succ]
    split at he
    · rename_i x y hx hy
      obtain ⟨v1, r1, q1⟩ := part_ok H h1 h2 hx
      obtain ⟨v2, r2, q2⟩ := part_ok H h3 h4 hy
      unfold Op.eqItems
      simp only [Sem.run_bind, r1, r2, Result.andThen_ok]
      split at he
      · rename_i hq
        simp only [heq _ _ _ _ _ _ hq q1 q2, Result.andThen_ok, Bool.not_true, Bool.false_eq_true, if_false]
        exact eqElems_ok heq h1 h2 h3 h4 k (i + 1) he
      · rename_i hq
        cases b with
        | true => exact absurd he hq
        | false => simp [heq _ _ _ _ _ _ he q1 q2]
    · cases he

set_option maxHeartbeats 4000000 in
theorem eqA_ok : ∀ (d : Nat) {t : TypeId} {x y : AV} {b : Bool} {v1 v2 : Value} {D : Nat}, eqA E.Γ E.P h d t x y = .ok b → VR ρ ι x v1 → VR ρ ι y v2 → d ≤ D →
    (Op.equalIn D t v1 v2).run E.P.P w = .ok b w
  | 0, _, _, _, _, _, _, _, he, _, _, _ => by cases he
  | d + 1, t, x, y, b, v1, v2, D, he, h1, h2, hD => by
    obtain ⟨D, rfl⟩ : ∃ D', D = D' + 1 := ⟨D - 1, by omega⟩
    have jud : ∀ {e : Lin} {m n : Int}, e.eval ρ = m - n → E.Γ.judge .eq e = .ok b → (m == n) = b := by
      intro e m n hv hj
      have := judge_ok H.ctx hj
      rw [hv] at this
      rw [← this]
      simp only [Cmp.sem]
      rw [Bool.eq_iff_iff]; simp; omega
    unfold eqA at he
    split at he
    · rename_i hd
      split at he
      · cases he; cases h1; cases h2
        simp [Op.equalIn, run_und H.tab w hd]
      · cases he
    · rename_i kk hd
      split at he
      · split at he
        · rename_i e; subst e; cases he; cases h1; cases h2
          simp [Op.equalIn, run_und H.tab w hd]
        · cases he
      · split at he
        · rename_i e; subst e; cases h1; cases h2
          have := jud (by rw [Lin.eval_sub, Lin.eval_of]) he
          simp [Op.equalIn, run_und H.tab w hd, this]
        · cases he
      · split at he
        · rename_i e; subst e; cases h1; cases h2
          have := jud (by rw [Lin.eval_sub, Lin.eval_of]) he
          simp [Op.equalIn, run_und H.tab w hd, this]
        · cases he
      · split at he
        · rename_i e; subst e; cases h1; cases h2
          have := jud (by rw [Lin.eval_sub]) he
          simp [Op.equalIn, run_und H.tab w hd, this]
        · cases he
      · cases he
    · rename_i hd
      split at he
      · cases h1; cases h2
        rename_i s1 hs1 s2 hs2
        rw [run_equalIn_string w D t s1 s2 (und_ok H.tab hd), strEql_ok H.ctx he hs1 hs2]
      · cases he
    · rename_i e hd
      split at he
      · cases he; cases h1; cases h2; simp [Op.equalIn, run_und H.tab w hd]
      · cases he; cases h1; cases h2; simp [Op.equalIn, run_und H.tab w hd]
      · cases he; cases h1; cases h2; simp [Op.equalIn, run_und H.tab w hd]
      · split at he
        · rename_i n hn
          obtain ⟨a1, a2, rfl, rfl, hr⟩ := ptrEq_ok H he h1 h2
          simp [Op.equalIn, run_und H.tab w hd, run_size H.tab w hn, hr]
        · cases he
      · cases he
    · rename_i ms hd
      split at he
      · cases he; cases h1; cases h2; simp [Op.equalIn, run_und H.tab w hd]
      · cases he; cases h1; cases h2; simp [Op.equalIn, run_und H.tab w hd]
      · cases he; cases h1; cases h2; simp [Op.equalIn, run_und H.tab w hd]
      · rename_i s v u w'
        cases h1; cases h2
        rename_i q1 p1 q2 p2
        cases hb : Nat.beq s u with
        | true =>
          have := Nat.eq_of_beq_eq_true hb
          subst this
          rw [hb] at he
          simp only [cond_true] at he
          split at he
          · rename_i i hi
            cases hc : i.comparable with
            | true =>
              rw [hc] at he
              simp only [cond_true] at he
              have := eqA_ok d he p1 p2 (by omega : d ≤ D)
              simp [Op.equalIn, run_und H.tab w hd, run_info H.tab w hi, hc, this]
            | false => rw [hc] at he; cases he
          · cases he
        | false =>
          rw [hb] at he
          cases he
          have : s ≠ u := fun e => by subst e; simp at hb
          simp [Op.equalIn, run_und H.tab w hd, this]
      · cases he
    · rename_i fs hd
      split at he
      · rename_i xs ys
        cases h1 with
        | agg _ cs a1 a2 =>
        cases h2 with
        | agg _ ds b1 b2 =>
        cases hc : E.P.P.stoodInHeld t with
        | true => rw [hc] at he; cases he
        | false =>
          rw [hc] at he
          simp only [cond_false] at he
          have hu := und_ok H.tab hd
          have hfo : E.P.P.fieldsOf t = fs := by simp [Program.fieldsOf, hu]
          rw [run_equalIn_struct w D t cs ds (by rw [hfo]; exact hu) hc, hfo]
          exact eqFields_ok H (fun t x y b v1 v2 e q1 q2 => eqA_ok d e q1 q2 (by omega)) fs.toList he a1 a2 b1 b2
      · cases he
    · rename_i k e hd
      split at he
      · rename_i xs ys n hn
        cases h1 with
        | agg _ cs a1 a2 =>
        cases h2 with
        | agg _ ds b1 b2 =>
        have hn' := hn
        unfold sizeT at hn'
        split at hn'
        · rename_i i hi
          cases hn'
          have hi' := info_ok H.tab hi
          have hc : E.P.P.cellsOf e = i.size := by simp [Program.cellsOf, hi']
          rw [run_equalIn_array w D cs ds (und_ok H.tab hd) hi', hc, List.range_eq_range']
          exact eqElems_ok H (fun t x y b v1 v2 e q1 q2 => eqA_ok d e q1 q2 (by omega)) a1 a2 b1 b2 k 0 he
        · cases hn'
      · cases he
    · rename_i e hd
      split at he
      · cases he; cases h1; cases h2; simp [Op.equalIn, run_und H.tab w hd]
      · cases he; cases h1; cases h2 <;> simp [Op.equalIn, run_und H.tab w hd]
      · cases he; cases h2; cases h1 <;> simp [Op.equalIn, run_und H.tab w hd]
      · cases he
    · rename_i k e hd
      split at he
      · cases he; cases h1; cases h2; simp [Op.equalIn, run_und H.tab w hd]
      · cases he; cases h1; cases h2; simp [Op.equalIn, run_und H.tab w hd]
      · cases he; cases h1; cases h2; simp [Op.equalIn, run_und H.tab w hd]
      · cases he
    · rename_i ps rs vv hd
      split at he
      · cases he; cases h1; cases h2; simp [Op.equalIn, run_und H.tab w hd]
      · cases he; cases h1; cases h2; simp [Op.equalIn, run_und H.tab w hd]
      · cases he; cases h1; cases h2; simp [Op.equalIn, run_und H.tab w hd]
      · cases he
    · cases he
end
end Go.Proofs.YtoklobcagaolmaaGreatDoor.SE
end
