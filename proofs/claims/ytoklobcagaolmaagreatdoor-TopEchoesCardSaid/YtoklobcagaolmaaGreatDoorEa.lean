/- THE EVALUATOR, part 1: abstract values, an abstract heap, and what each operation of the model's code comes to on them. No condition. -/
import Derived.Defers
import Derived.Orders
import Derived.Scope

/-
  The words of a walk by numbers: values, memory and their eliminators.
-/
namespace Go.Proofs.YtoklobcagaolmaaGreatDoor.SE

inductive T (α : Type) where
  | e : T α
  | n (l : T α) (v : Option α) (r : T α) : T α
deriving Inhabited

inductive Cap where
  | ex (c : Nat)
  | gr (esz : Nat)
deriving DecidableEq, Inhabited, Repr

structure Lin where
  c : Int
  ts : List (Nat × Int)
deriving DecidableEq, Inhabited, Repr

inductive AV where
  | bool (b : Bool)
  | int (k : IntKind) (n : Int)
  | sym (k : IntKind) (e : Lin)
  | flt (k : FloatKind) (bits : Nat)
  | str (len num : Nat)
  | nilptr
  | ptr (id off : Nat)
  | nilsl
  | sl (id off len : Nat) (cap : Cap)
  | nilmap
  | map (id : Nat)
  | func (f : FuncId) (first captured : List AV)
  | nilfunc
  | iface (t : TypeId) (v : AV)
  | niliface
  | agg (l : List AV)
  | tup (l : List AV)
  | yld (id : Nat)
  | unk (k : IntKind)
deriving Inhabited

inductive R (α : Type) where
  | ok (a : α)
  | no (why : String)
deriving Inhabited

inductive AO where
  | cells (elem : TypeId) (mem : List AV) (exact wr : Bool) (mate : Option Nat)
  | map (es : List (AV × AV × Nat)) (clock : Nat)
  | loop (st : Nat) (tm : T AV) (ps : List Nat) (asg body : Code) (d : Nat)
  | dfs (full : Bool)
  | siter (len num pos : Nat)
deriving Inhabited

inductive ADef where
  | fn (f : FuncId) (args : List AV)
  | coll (id : Nat)
deriving Inhabited

structure St where
  tm : T AV
  df : List ADef
  h : T AO
  nx : Nat
deriving Inhabited

structure VS where
  v : AV
  h : T AO
  nx : Nat
deriving Inhabited

inductive Step where
  | val (v : AV)
  | eff (v : AV) (h : T AO) (nx : Nat)
  | call (f : FuncId) (args : List AV)
  | defer (f : FuncId) (args : List AV)
  | round (id : Nat) (args : List AV)
  | no (why : String)
deriving Inhabited

inductive X where | norm | ret | exit (id : Nat)
inductive Out where
  | out (x : X) (s : St)
  | bad (why : String)
deriving Inhabited

noncomputable def bif2 {β : Type} (b : Bool) (x y : β) : β :=
  @Bool.rec (fun _ => β) y x b

noncomputable def R.elim {α β : Type} (x : R α) (f : α → β) (g : String → β) : β :=
  @R.rec α (fun _ => β) f g x

noncomputable def opt {α β : Type} (x : Option α) (n : β) (s : α → β) : β :=
  @Option.rec α (fun _ => β) n s x

noncomputable def lcase {α β : Type} (x : List α) (n : β) (c : α → List α → β) : β :=
  @List.rec α (fun _ => β) n (fun a l _ => c a l) x

noncomputable def lrec {α γ δ : Type} (n : γ → δ) (c : α → List α → (γ → δ) → γ → δ) (x : List α) : γ → δ :=
  @List.rec α (fun _ => γ → δ) n c x
noncomputable def nrec {γ δ : Type} (z : γ → δ) (s : Nat → (γ → δ) → γ → δ) (x : Nat) : γ → δ :=
  @Nat.rec (fun _ => γ → δ) z s x
noncomputable def ncase {β : Type} (x : Nat) (z : β) (s : Nat → β) : β := @Nat.rec (fun _ => β) z (fun n _ => s n) x

noncomputable def tcase {α β : Type} (x : T α) (e : β) (n : T α → Option α → T α → β) : β := @T.rec α (fun _ => β) e (fun l v r _ _ => n l v r) x
noncomputable def T.getW {α : Type} (p : List Bool) : T α → Option α :=
  @List.rec Bool (fun _ => T α → Option α) (fun t => @T.rec α (fun _ => Option α) none (fun _ v _ _ _ => v) t)
    (fun b _ ih t => @T.rec α (fun _ => Option α) none (fun l _ r _ _ => @Bool.rec (fun _ => Option α) (ih r) (ih l) b) t) p
noncomputable def T.putW {α : Type} (p : List Bool) : T α → Option α → T α :=
  @List.rec Bool (fun _ => T α → Option α → T α)
    (fun t x => @T.rec α (fun _ => T α) (.n .e x .e) (fun l _ r _ _ => .n l x r) t)
    (fun b _ ih t x => @Bool.rec (fun _ => T α)
      (@T.rec α (fun _ => T α) (.n .e none (ih .e x)) (fun l v r _ _ => .n l v (ih r x)) t)
      (@T.rec α (fun _ => T α) (.n (ih .e x) none .e) (fun l v r _ _ => .n (ih l x) v r) t) b) p

/-- the way to a number's place -/
noncomputable def way (f : Nat) : Nat → List Bool :=
  nrec (fun _ => []) (fun _ ih i => bif2 (Nat.beq i 0) [] (bif2 (Nat.beq (Nat.land i 1) 1) (true :: ih (Nat.shiftRight i 1)) (false :: ih (Nat.sub (Nat.shiftRight i 1) 1)))) f
noncomputable def wayOf (i : Nat) : List Bool := way i i
noncomputable def T.get {α : Type} (t : T α) (i : Nat) : Option α := T.getW (wayOf i) t
noncomputable def T.set {α : Type} (t : T α) (i : Nat) (x : α) : T α := T.putW (wayOf i) t (some x)
noncomputable def T.del {α : Type} (t : T α) (i : Nat) : T α := T.putW (wayOf i) t none

def msgLin (s : String) (_ : Lin) : String := s
def msgBin (s : String) (_ : BinOp) (_ : IntKind) (_ _ : Lin) : String := s

noncomputable def AV.ptr? (x : AV) : Option (Nat × Nat) :=
  @AV.rec (fun _ => Option (Nat × Nat)) (fun _ => Unit) (fun _ => none) (fun _ _ => none) (fun _ _ => none) (fun _ _ => none) (fun _ _ => none) (none) (fun i o => some (i, o)) (none) (fun _ _ _ _ => none) (none) (fun _ => none) (fun _ _ _ _ _ => none) (none) (fun _ _ _ => none) (none) (fun _ _ => none) (fun _ _ => none) (fun _ => none) (fun _ => none) () (fun _ _ _ _ => ()) x

noncomputable def AV.bool? (x : AV) : Option Bool :=
  @AV.rec (fun _ => Option Bool) (fun _ => Unit) (fun b => some b) (fun _ _ => none) (fun _ _ => none) (fun _ _ => none) (fun _ _ => none) (none) (fun _ _ => none) (none) (fun _ _ _ _ => none) (none) (fun _ => none) (fun _ _ _ _ _ => none) (none) (fun _ _ _ => none) (none) (fun _ _ => none) (fun _ _ => none) (fun _ => none) (fun _ => none) () (fun _ _ _ _ => ()) x

noncomputable def AV.int? (x : AV) : Option (IntKind × Int) :=
  @AV.rec (fun _ => Option (IntKind × Int)) (fun _ => Unit) (fun _ => none) (fun k n => some (k, n)) (fun _ _ => none) (fun _ _ => none) (fun _ _ => none) (none) (fun _ _ => none) (none) (fun _ _ _ _ => none) (none) (fun _ => none) (fun _ _ _ _ _ => none) (none) (fun _ _ _ => none) (none) (fun _ _ => none) (fun _ _ => none) (fun _ => none) (fun _ => none) () (fun _ _ _ _ => ()) x

noncomputable def AV.agg? (x : AV) : Option (List AV) :=
  @AV.rec (fun _ => Option (List AV)) (fun _ => Unit) (fun _ => none) (fun _ _ => none) (fun _ _ => none) (fun _ _ => none) (fun _ _ => none) (none) (fun _ _ => none) (none) (fun _ _ _ _ => none) (none) (fun _ => none) (fun _ _ _ _ _ => none) (none) (fun _ _ _ => none) (none) (fun l _ => some l) (fun _ _ => none) (fun _ => none) (fun _ => none) () (fun _ _ _ _ => ()) x

noncomputable def AV.tup? (x : AV) : Option (List AV) :=
  @AV.rec (fun _ => Option (List AV)) (fun _ => Unit) (fun _ => none) (fun _ _ => none) (fun _ _ => none) (fun _ _ => none) (fun _ _ => none) (none) (fun _ _ => none) (none) (fun _ _ _ _ => none) (none) (fun _ => none) (fun _ _ _ _ _ => none) (none) (fun _ _ _ => none) (none) (fun _ _ => none) (fun l _ => some l) (fun _ => none) (fun _ => none) () (fun _ _ _ _ => ()) x

noncomputable def AV.func? (x : AV) : Option (FuncId × List AV × List AV) :=
  @AV.rec (fun _ => Option (FuncId × List AV × List AV)) (fun _ => Unit) (fun _ => none) (fun _ _ => none) (fun _ _ => none) (fun _ _ => none) (fun _ _ => none) (none) (fun _ _ => none) (none) (fun _ _ _ _ => none) (none) (fun _ => none) (fun f a c _ _ => some (f, a, c)) (none) (fun _ _ _ => none) (none) (fun _ _ => none) (fun _ _ => none) (fun _ => none) (fun _ => none) () (fun _ _ _ _ => ()) x

noncomputable def AV.str? (x : AV) : Option (Nat × Nat) :=
  @AV.rec (fun _ => Option (Nat × Nat)) (fun _ => Unit) (fun _ => none) (fun _ _ => none) (fun _ _ => none) (fun _ _ => none) (fun l n => some (l, n)) (none) (fun _ _ => none) (none) (fun _ _ _ _ => none) (none) (fun _ => none) (fun _ _ _ _ _ => none) (none) (fun _ _ _ => none) (none) (fun _ _ => none) (fun _ _ => none) (fun _ => none) (fun _ => none) () (fun _ _ _ _ => ()) x

noncomputable def AV.yld? (x : AV) : Option Nat :=
  @AV.rec (fun _ => Option Nat) (fun _ => Unit) (fun _ => none) (fun _ _ => none) (fun _ _ => none) (fun _ _ => none) (fun _ _ => none) (none) (fun _ _ => none) (none) (fun _ _ _ _ => none) (none) (fun _ => none) (fun _ _ _ _ _ => none) (none) (fun _ _ _ => none) (none) (fun _ _ => none) (fun _ _ => none) (fun y => some y) (fun _ => none) () (fun _ _ _ _ => ()) x

noncomputable def AV.cells (x : AV) : Option (List AV) :=
  @AV.rec (fun _ => Option (List AV)) (fun _ => Unit) (fun _ => some [x]) (fun _ _ => some [x]) (fun _ _ => some [x]) (fun _ _ => some [x]) (fun _ _ => some [x]) (some [x]) (fun _ _ => some [x]) (some [x]) (fun _ _ _ _ => some [x]) (some [x]) (fun _ => some [x]) (fun _ _ _ _ _ => some [x]) (some [x]) (fun _ _ _ => some [x]) (some [x]) (fun l _ => some l) (fun _ _ => none) (fun _ => some [x]) (fun _ => some [x]) () (fun _ _ _ _ => ()) x

noncomputable def pr {α β γ : Type} (x : α × β) (f : α → β → γ) : γ :=
  @Prod.rec α β (fun _ => γ) f x

noncomputable def AO.elim {β : Type} (x : AO) (c : TypeId → List AV → Bool → Bool → Option Nat → β) (m : List (AV × AV × Nat) → Nat → β) (n : β) : β :=
  @AO.rec (fun _ => β) c m (fun _ _ _ _ _ _ => n) (fun _ => n) (fun _ _ _ => n) x

noncomputable def Step.elim {β : Type} (x : Step) (v : AV → β) (e : AV → T AO → Nat → β) (c d r : FuncId → List AV → β) (n : String → β) : β :=
  @Step.rec (fun _ => β) v e c d r n x

noncomputable def St.elim {β : Type} (x : St) (f : T AV → List ADef → T AO → Nat → β) : β :=
  @St.rec (fun _ => β) f x

noncomputable def VS.elim {β : Type} (x : VS) (f : AV → T AO → Nat → β) : β :=
  @VS.rec (fun _ => β) f x

noncomputable def operand {β : Type} (x : Operand) (t : Tmp → β) (c : Value → β) (g f : Nat → β) : β :=
  @Operand.rec (fun _ => β) t c g f x

noncomputable def oper {β : Type} (x : Oper) (f : Option Tmp → Op → TypeId → String → Array Edge → Option (Nat × Bool) → β) : β :=
  @Oper.rec (fun _ => β) f x

noncomputable def int2 {β : Type} (x : Int) (p : Nat → β) (m : Nat → β) : β :=
  @Int.rec (fun _ => β) p m x

noncomputable def kind {β : Type} (k : IntKind) (a b c d e f g h : β) : β :=
  @IntKind.rec (fun _ => β) a b c d e f g h k

noncomputable def binop {β : Type} (o : BinOp) (add sub mul quo rem and or xor shl shr andNot eql neq lss leq gtr geq : β) : β :=
  @BinOp.rec (fun _ => β) add sub mul quo rem and or xor shl shr andNot eql neq lss leq gtr geq o

noncomputable def Out.elim {β : Type} (x : Out) (f : X → St → β) (g : String → β) : β :=
  @Out.rec (fun _ => β) f g x

noncomputable def X.elim {β : Type} (x : X) (n r : β) (e : Nat → β) : β :=
  @X.rec (fun _ => β) n r e x

noncomputable def opcase {β : Type} (o : Op) (c0 : Operand → β) (c1 : Operand → β) (c2 : Operand → Operand → Operand → β) (c3 : TypeId → β) (c4 : TypeId → Operand → β) (c5 : TypeId → Array (Nat × Operand) → β) (c6 : TypeId → Nat → Array (Nat × Operand) → β) (c7 : TypeId → Operand → Operand → Operand → β) (c8 : TypeId → Operand → β) (c9 : TypeId → Operand → Operand → β) (c10 : Nat → β) (c11 : Nat → β) (c12 : Operand → β) (c13 : BinOp → TypeId → Operand → Operand → TypeId → β) (c14 : UnOp → TypeId → Operand → β) (c15 : TypeId → TypeId → Operand → β) (c16 : TypeId → Operand → β) (c17 : TypeId → Operand → β) (c18 : Fn → Array Operand → Array Operand → β) (c19 : TypeId → Option Operand → β) (c20 : TypeId → Operand → β) (c21 : TypeId → Operand → Operand → β) (c22 : TypeId → Operand → Option Operand → Option Operand → Option Operand → β) (c23 : TypeId → Operand → Nat → β) (c24 : TypeId → Operand → Nat → β) (c25 : TypeId → Operand → Operand → β) (c26 : TypeId → Operand → Operand → β) (c27 : TypeId → Operand → Operand → Bool → β) (c28 : TypeId → Operand → Operand → Operand → β) (c29 : TypeId → Operand → Operand → β) (c30 : TypeId → Operand → Operand → Operand → β) (c31 : TypeId → Operand → β) (c32 : Operand → Bool → β) (c33 : Operand → β) (c34 : Operand → TypeId → TypeId → Bool → β) (c35 : Operand → Nat → β) (c36 : Call → β) (c37 : Call → β) (c38 : Call → β) (c39 : Operand → β) (c40 : Operand → Operand → β) (c41 : TypeId → Operand → Bool → β) (c42 : Array SelectCase → Bool → β) : β :=
  @Op.rec (fun _ => β) c0 c1 c2 c3 c4 c5 c6 c7 c8 c9 c10 c11 c12 c13 c14 c15 c16 c17 c18 c19 c20 c21 c22 c23 c24 c25 c26 c27 c28 c29 c30 c31 c32 c33 c34 c35 c36 c37 c38 c39 c40 c41 c42 o

noncomputable def callee {β : Type} (x : Callee) (v : Operand → β) (i : Operand → String → β) (b : Builtin → β) : β :=
  @Callee.rec (fun _ => β) v i b x

noncomputable def code {γ : Type} (skip : γ) (region : Nat → Array Oper → Bool → γ) (seq : Code → Code → γ → γ → γ) (cond : Operand → Code → Code → γ → γ → γ) (block : Nat → Code → γ → γ) (loop : Code → γ → γ)
    (rangeFunc : Operand → Array Tmp → Code → Code → γ → γ → γ) (exit : Nat → γ) (scope : Code → γ → γ) (label goto : Nat → γ) (ret : γ) (refuse : String → γ) (c : Code) : γ :=
  @Code.rec (fun _ => γ) skip region seq cond block loop rangeFunc exit scope label goto ret refuse c

end Go.Proofs.YtoklobcagaolmaaGreatDoor.SE

noncomputable section
namespace Go.Proofs.YtoklobcagaolmaaGreatDoor.SE
def R.bind {α β : Type} (x : R α) (f : α → R β) : R β :=
  match x with
  | .ok a => f a
  | .no s => .no s
instance : Monad R where
  pure := R.ok
  bind := R.bind

def nth {α : Type} (l : List α) : Nat → Option α :=
  lrec (fun _ => none) (fun x _ ih i => bif2 (Nat.beq i 0) (some x) (ih (Nat.sub i 1))) l

/-- the cells from a place on: so many, or none at all -/
def takeN {α : Type} (n : Nat) : List α → Option (List α) :=
  nrec (fun _ => some []) (fun _ ih l => lcase l none (fun x xs => opt (ih xs) none (fun r => some (x :: r)))) n
def dropN {α : Type} (l : List α) : Nat → List α :=
  lrec (fun _ => []) (fun x xs ih n => bif2 (Nat.beq n 0) (x :: xs) (ih (Nat.sub n 1))) l
def sub {α : Type} (l : List α) (off n : Nat) : Option (List α) := takeN n (dropN l off)
/-- cells written from a place on; none: they do not fit -/
def over {α : Type} (vs : List α) : List α → Option (List α) :=
  lrec (fun l => some l) (fun v _ ih l => lcase l none (fun _ xs => opt (ih xs) none (fun r => some (v :: r)))) vs
def splice {α : Type} (l : List α) (o : Nat) (vs : List α) : Option (List α) :=
  nrec (fun l => over vs l) (fun _ ih l => lcase l none (fun x xs => opt (ih xs) none (fun r => some (x :: r)))) o l

/-- the number of a text: a digit of 65536 for each sign -/
def numOf : List UInt8 → Nat
  | [] => 0
  | b :: r => Nat.add b.toNat (Nat.mul 65536 (numOf r))
def dig (num i : Nat) : Nat := Nat.land (Nat.shiftRight num (Nat.mul 16 i)) 65535

def undefA : AV := .tup []

def ofScalar : Value → Option AV
  | .bool b => some (.bool b)
  | .int k n => some (.int k n)
  | .float k b => some (.flt k b)
  | .string s => some (.str s.data.size (numOf s.data.toList))
  | .pointer none => some .nilptr
  | .slice none 0 0 => some .nilsl
  | .map none => some .nilmap
  | .nilFunc => some .nilfunc
  | .nilIface => some .niliface
  | _ => none
def ofList : List Value → Option (List AV)
  | [] => some []
  | v :: vs => match ofScalar v, ofList vs with
    | some a, some l => some (a :: l)
    | _, _ => none
def ofV : Value → Option AV
  | .agg cs => match ofList cs.toList with
    | some l => some (.agg l)
    | none => none
  | v => ofScalar v

/-! ## Facts -/
inductive Cmp where | lt | le | eq
deriving DecidableEq, Inhabited, Repr
inductive Def where
  | bin (op : BinOp) (k : IntKind) (x y : Lin)
  | conv (k : IntKind) (x : Lin)
deriving DecidableEq, Inhabited, Repr
structure Ctx where
  box : List (Int × Int)
  defs : List (Def × Lin)
  facts : List (Lin × Cmp × Bool)
deriving Inhabited

def merge : Nat → List (Nat × Int) → List (Nat × Int) → List (Nat × Int)
  | 0, x, y => x ++ y
  | _ + 1, [], l => l
  | _ + 1, l, [] => l
  | f + 1, (i, a) :: x, (j, b) :: y =>
    bif Nat.beq i j then (if a + b = 0 then merge f x y else (i, a + b) :: merge f x y)
    else bif Nat.blt i j then (i, a) :: merge f x ((j, b) :: y) else (j, b) :: merge f ((i, a) :: x) y
def Lin.add (x y : Lin) : Lin := ⟨x.c + y.c, merge 100 x.ts y.ts⟩
def Lin.scale (k : Int) (x : Lin) : Lin := if k = 0 then ⟨0, []⟩ else ⟨k * x.c, x.ts.map fun (i, a) => (i, k * a)⟩
def Lin.sub (x y : Lin) : Lin := x.add (y.scale (-1))
def Lin.of (n : Int) : Lin := ⟨n, []⟩
def Lin.atom (i : Nat) : Lin := ⟨0, [(i, 1)]⟩
def Ctx.range (Γ : Ctx) (x : Lin) : Option (Int × Int) :=
  go x.ts x.c x.c
where
  go : List (Nat × Int) → Int → Int → Option (Int × Int)
    | [], lo, hi => some (lo, hi)
    | (i, a) :: r, lo, hi => match nth Γ.box i with
      | some (l, u) => if 0 ≤ a then go r (lo + a * l) (hi + a * u) else go r (lo + a * u) (hi + a * l)
      | none => none
def Ctx.judge (Γ : Ctx) (r : Cmp) (d : Lin) : R Bool :=
  match Γ.facts.find? fun (e, q, _) => e == d && q == r with
  | some (_, _, b) => .ok b
  | none =>
  match Γ.range d with
  | none => .no "no range"
  | some (lo, hi) =>
    match r with
    | .lt => if hi < 0 then .ok true else if 0 ≤ lo then .ok false else .no (msgLin "undecided <" d)
    | .le => if hi ≤ 0 then .ok true else if 0 < lo then .ok false else .no (msgLin "undecided <=" d)
    | .eq => if hi < 0 || 0 < lo then .ok false else if lo = 0 && hi = 0 then .ok true else .no (msgLin "undecided =" d)
def mkInt (k : IntKind) (e : Lin) : AV :=
  match e.ts with
  | [] => .int k e.c
  | _ => .sym k e
def Ctx.fits (Γ : Ctx) (k : IntKind) (e : Lin) : Bool :=
  match Γ.range e with
  | some (lo, hi) => k.min ≤ lo && hi ≤ k.max
  | none => false
def Ctx.look (Γ : Ctx) (d : Def) : Option Lin := (Γ.defs.find? fun (e, _) => e == d).map (·.2)
def linOf : AV → Option Lin
  | .int _ n => some (.of n)
  | .sym _ e => some e
  | _ => none

def symBin (Γ : Ctx) (op : BinOp) (k : IntKind) (x y : Lin) : R AV :=
  let lin (e : Lin) : R AV := if Γ.fits k e then .ok (mkInt k e) else
    match Γ.look (.bin op k x y) with
    | some l => .ok (mkInt k l)
    | none => .no (msgBin "no atom" op k x y)
  match op with
  | .add => lin (x.add y)
  | .sub => lin (x.sub y)
  | .mul => match x.ts, y.ts with
    | [], _ => lin (y.scale x.c)
    | _, [] => lin (x.scale y.c)
    | _, _ => .no "mul"
  | .eql => do .ok (.bool (← Γ.judge .eq (x.sub y)))
  | .neq => do .ok (.bool (!(← Γ.judge .eq (x.sub y))))
  | .lss => do .ok (.bool (← Γ.judge .lt (x.sub y)))
  | .leq => do .ok (.bool (← Γ.judge .le (x.sub y)))
  | .gtr => do .ok (.bool (← Γ.judge .lt (y.sub x)))
  | .geq => do .ok (.bool (← Γ.judge .le (y.sub x)))
  | _ =>
    match Γ.look (.bin op k x y) with
    | some l => .ok (mkInt k l)
    | none => .no (msgBin "no atom" op k x y)

/-! ## whole numbers -/
def two (k : IntKind) : Nat := kind k 256 65536 4294967296 18446744073709551616 256 65536 4294967296 18446744073709551616
def sgn (k : IntKind) : Bool := kind k true true true true false false false false
def bts (k : IntKind) : Nat := kind k 8 16 32 64 8 16 32 64
def kindNo (k : IntKind) : Nat := kind k 0 1 2 3 4 5 6 7
def bitsOf (n : Int) (m : Nat) : Nat := int2 n (fun a => Nat.mod a m) (fun a => Nat.sub (Nat.sub m 1) (Nat.mod a m))
def wrapN (k : IntKind) (n : Int) : Int :=
  bif2 (sgn k) (bif2 (Nat.ble (Nat.div (two k) 2) (bitsOf n (two k))) (Int.negSucc (Nat.sub (Nat.sub (two k) 1) (bitsOf n (two k)))) (Int.ofNat (bitsOf n (two k)))) (Int.ofNat (bitsOf n (two k)))
def addI (x y : Int) : Int := int2 x (fun a => int2 y (fun b => Int.ofNat (Nat.add a b)) (fun _ => Int.add x y)) (fun _ => Int.add x y)
def subI (x y : Int) : Int := int2 x (fun a => int2 y (fun b => bif2 (Nat.ble b a) (Int.ofNat (Nat.sub a b)) (Int.negSucc (Nat.sub (Nat.sub b a) 1))) (fun _ => Int.sub x y)) (fun _ => Int.sub x y)
def mulI (x y : Int) : Int := int2 x (fun a => int2 y (fun b => Int.ofNat (Nat.mul a b)) (fun _ => Int.mul x y)) (fun _ => Int.mul x y)
def eqI (x y : Int) : Bool := int2 x (fun a => int2 y (fun b => Nat.beq a b) (fun _ => false)) (fun a => int2 y (fun _ => false) (fun b => Nat.beq a b))
def leI (x y : Int) : Bool := int2 x (fun a => int2 y (fun b => Nat.ble a b) (fun _ => false)) (fun a => int2 y (fun _ => true) (fun b => Nat.ble b a))
def ltI (x y : Int) : Bool := int2 x (fun a => int2 y (fun b => Nat.ble (Nat.add a 1) b) (fun _ => false)) (fun a => int2 y (fun _ => true) (fun b => Nat.ble (Nat.add b 1) a))

def okI (k : IntKind) (n : Int) : R AV := .ok (.int k n)
def okB (b : Bool) : R AV := .ok (.bool b)
def bAdd (k : IntKind) (x y : Int) : R AV := okI k (wrapN k (addI x y))
def bSub (k : IntKind) (x y : Int) : R AV := okI k (wrapN k (subI x y))
def bMul (k : IntKind) (x y : Int) : R AV := okI k (wrapN k (mulI x y))
def bQuo (k : IntKind) (x y : Int) : R AV := bif2 (eqI y 0) (.no "zero") (okI k (wrapN k (x.tdiv y)))
def bRem (k : IntKind) (x y : Int) : R AV := bif2 (eqI y 0) (.no "zero") (okI k (x.tmod y))
def bAnd (k : IntKind) (x y : Int) : R AV := okI k (wrapN k (Int.ofNat (Nat.land (bitsOf x (two k)) (bitsOf y (two k)))))
def bOr (k : IntKind) (x y : Int) : R AV := okI k (wrapN k (Int.ofNat (Nat.lor (bitsOf x (two k)) (bitsOf y (two k)))))
def bXor (k : IntKind) (x y : Int) : R AV := okI k (wrapN k (Int.ofNat (Nat.xor (bitsOf x (two k)) (bitsOf y (two k)))))
def bAndNot (k : IntKind) (x y : Int) : R AV := okI k (wrapN k (Int.ofNat (Nat.land (bitsOf x (two k)) (Nat.sub (Nat.sub (two k) 1) (bitsOf y (two k))))))
def bNone (_ : IntKind) (_ _ : Int) : R AV := .no "bin"
def bEq (_ : IntKind) (x y : Int) : R AV := okB (eqI x y)
def bNe (_ : IntKind) (x y : Int) : R AV := okB (bif2 (eqI x y) false true)
def bLt (_ : IntKind) (x y : Int) : R AV := okB (ltI x y)
def bLe (_ : IntKind) (x y : Int) : R AV := okB (leI x y)
def bGt (_ : IntKind) (x y : Int) : R AV := okB (ltI y x)
def bGe (_ : IntKind) (x y : Int) : R AV := okB (leI y x)
def intBin (op : BinOp) : IntKind → Int → Int → R AV :=
  binop op bAdd bSub bMul bQuo bRem bAnd bOr bXor bNone bNone bAndNot bEq bNe bLt bLe bGt bGe
def shBy (k : IntKind) (a : Nat) : Nat := bif2 (Nat.ble a (bts k)) a (bts k)
def sShl (k : IntKind) (x : Int) (y : Int) : R AV := int2 y (fun a => okI k (wrapN k (mulI x (Int.ofNat (Nat.pow 2 (shBy k a)))))) (fun _ => .no "shift")
def sShr (k : IntKind) (x : Int) (y : Int) : R AV :=
  int2 y (fun a => int2 x (fun b => okI k (Int.ofNat (Nat.shiftRight b (shBy k a)))) (fun b => okI k (Int.negSucc (Nat.shiftRight b (shBy k a))))) (fun _ => .no "shift")
def isSh : BinOp → Bool
  | .shl | .shr => true
  | _ => false

/-! ## texts -/
def chr (c : Nat) : AV := bif Nat.blt c 256 then .int .u8 (Int.ofNat c) else .sym .u8 (.atom (Nat.sub c 256))
def chLin (c : Nat) : Lin := bif Nat.blt c 256 then .of (Int.ofNat c) else .atom (Nat.sub c 256)
def chEq (Γ : Ctx) (c d : Nat) : R Bool :=
  bif Nat.beq c d then .ok true else bif Nat.blt c 256 && Nat.blt d 256 then .ok false else Γ.judge .eq ((chLin c).sub (chLin d))
def strEq (Γ : Ctx) : Nat → Nat → Nat → R Bool
  | 0, _, _ => .ok true
  | n + 1, a, b => match chEq Γ (Nat.land a 65535) (Nat.land b 65535) with
    | .ok true => strEq Γ n (Nat.shiftRight a 16) (Nat.shiftRight b 16)
    | r => r
def strEql (Γ : Ctx) (l a m b : Nat) : R Bool :=
  bif Nat.beq l m then (bif Nat.beq a b then .ok true else strEq Γ l a b) else .ok false
def strSlice (num l h : Nat) : Nat := Nat.mod (Nat.shiftRight num (Nat.mul 16 l)) (Nat.pow 65536 (Nat.sub h l))
/-- is an atom a byte? -/
def Ctx.byte (Γ : Ctx) (i : Nat) : Bool :=
  match nth Γ.box i with
  | some (lo, hi) => decide (0 ≤ lo) && decide (hi ≤ 255)
  | none => false
/-- a byte's digit -/
def digOf (Γ : Ctx) : AV → R Nat
  | .int .u8 (.ofNat n) => bif Nat.ble n 255 then .ok n else .no "byte"
  | .sym .u8 e => match e with
    | ⟨0, [(i, 1)]⟩ => bif Γ.byte i && Nat.blt i 65000 then .ok (Nat.add i 256) else .no (msgLin "no byte" e)
    | _ => match Γ.look (.conv .u8 e) with
      | some ⟨0, [(i, 1)]⟩ => bif (Γ.byte i && Nat.blt i 65000) && Γ.fits .u8 e then .ok (Nat.add i 256) else .no (msgLin "no byte" e)
      | _ => .no (msgLin "no byte" e)
  | _ => .no "no byte"
/-- bytes as a text's number -/
def numBytes (Γ : Ctx) : List AV → R Nat
  | [] => .ok 0
  | v :: r => match digOf Γ v with
    | .ok n => match numBytes Γ r with
      | .ok m => .ok (Nat.add n (Nat.mul 65536 m))
      | .no s => .no s
    | .no s => .no s
def cellsStr : Nat → Nat → List AV
  | 0, _ => []
  | n + 1, a => chr (Nat.land a 65535) :: cellsStr n (Nat.shiftRight a 16)
def idxByte (Γ : Ctx) (c : Nat) : Nat → Nat → Nat → R AV
  | 0, _, _ => .ok (.int .i64 (-1))
  | n + 1, a, i => match chEq Γ (Nat.land a 65535) c with
    | .ok true => .ok (.int .i64 (Int.ofNat i))
    | .ok false => idxByte Γ c n (Nat.shiftRight a 16) (Nat.add i 1)
    | .no s => .no s
def cntByte (Γ : Ctx) (c : Nat) : Nat → Nat → Nat → R AV
  | 0, _, k => .ok (.int .i64 (Int.ofNat k))
  | n + 1, a, k => match chEq Γ (Nat.land a 65535) c with
    | .ok true => cntByte Γ c n (Nat.shiftRight a 16) (Nat.add k 1)
    | .ok false => cntByte Γ c n (Nat.shiftRight a 16) k
    | .no s => .no s

end Go.Proofs.YtoklobcagaolmaaGreatDoor.SE
end

noncomputable section
namespace Go.Proofs.YtoklobcagaolmaaGreatDoor.SE

/-! ## operands -/
def ofVR (v : Value) : R AV := opt (ofV v) (.no "const") .ok
def evT (t : Tmp) (tm : T AV) : R AV := opt (T.getW (wayOf t) tm) (.no "a temporary that is not known") .ok
def evC (v : Value) (_ : T AV) : R AV := ofVR v
def evG (g : Nat) (_ : T AV) : R AV := .ok (.ptr g 0)
def evF (f : Nat) (_ : T AV) : R AV := .ok (.func f [] [])
def ev (tm : T AV) (o : Operand) : R AV := operand o evT evC evG evF tm
def evs (tm : T AV) (l : List Operand) : R (List AV) :=
  lrec (fun _ => .ok []) (fun o _ ih tm => (ev tm o).elim (fun a => (ih tm).elim (fun l => .ok (a :: l)) .no) .no) l tm
def evParts (tm : T AV) (l : List (Nat × Operand)) : R (List (Nat × AV)) :=
  lrec (fun _ => .ok []) (fun p _ ih tm => (ev tm p.2).elim (fun a => (ih tm).elim (fun l => .ok ((p.1, a) :: l)) .no) .no) l tm

/-- of a function: behind so many pieces of its body, and so many of the piece that comes then, a temporary is a number of which nothing is known; what it hands back then is one, too, of the kind kr -/
structure Sum where
  n : Nat
  n2 : Nat
  t : Tmp
  k : IntKind
  kr : IntKind
deriving Inhabited
/-- the tables: what is known of the program -/
structure Tab where
  P : Program
  ts : T TypeInfo
  fs : T Func
  sums : List (FuncId × Sum)
def Tab.info (P : Tab) (t : TypeId) : Option TypeInfo := P.ts.get t
def Tab.und (P : Tab) (t : TypeId) : Option TypeDesc :=
  match P.info t with
  | some i => match i.desc with
    | .named _ u => match P.info u with
      | some j => some j.desc
      | none => none
    | d => some d
  | none => none
def zeroOf (P : Tab) (t : TypeId) : Option (List AV) :=
  match P.info t with
  | some i => match i.zero with
    | some z => match ofV z with
      | some a => a.cells
      | none => none
    | none => none
  | none => none
def isAggT (P : Tab) (t : TypeId) : Option Bool :=
  match P.und t with
  | some (.struct _) | some (.array _ _) => some true
  | some _ => some false
  | none => none
def sizeT (P : Tab) (t : TypeId) : Option Nat :=
  match P.info t with
  | some i => some i.size
  | none => none

/-! ## memory -/
def ldN (h : T AO) (id off n : Nat) : R (List AV) :=
  opt (h.get id) (.no "load: no object") fun o => o.elim (fun _ mem _ _ _ => opt (sub mem off n) (.no "load: outside") .ok) (fun _ _ => .no "load: a map") (.no "load: another")
def ld1 (h : T AO) (id off : Nat) : R AV :=
  opt (h.get id) (.no "load: no object") fun o => o.elim (fun _ mem _ _ _ => opt (nth mem off) (.no "load: outside") .ok) (fun _ _ => .no "load: a map") (.no "load: another")
def ldT (P : Tab) (h : T AO) (t : TypeId) (id off : Nat) : R AV :=
  opt (isAggT P t) (.no "load: type") fun b => bif2 b (opt (sizeT P t) (.no "load: size") fun n => (ldN h id off n).elim (fun l => .ok (.agg l)) .no) (ld1 h id off)
def stN (h : T AO) (id off : Nat) (vs : List AV) : R (T AO) :=
  opt (h.get id) (.no "store: no object") fun o => o.elim
    (fun elem mem ex wr mate => bif2 wr (opt (splice mem off vs) (.no "store: outside") fun mem' =>
      .ok ((opt mate h (fun m => h.del m)).set id (.cells elem mem' ex true none))) (.no "store: not to be written"))
    (fun _ _ => .no "store: a map") (.no "store: another")
def cellOk : AV → Bool
  | .agg _ | .tup _ => false
  | _ => true
def lenIs {α : Type} (l : List α) : Nat → Bool :=
  lrec (fun n => Nat.beq n 0) (fun _ _ ih n => bif2 (Nat.beq n 0) false (ih (Nat.sub n 1))) l
def stT (P : Tab) (h : T AO) (t : TypeId) (id off : Nat) (v : AV) : R (T AO) :=
  opt (sizeT P t) (.no "store: type") fun n => opt v.cells (.no "store: a tuple") fun c => bif2 (lenIs c n) (stN h id off c) (.no "store: size")
def new (h : T AO) (nx : Nat) (o : AO) : T AO := h.set nx o

/-! ## operations -/

def fillA (place : Nat → Option (Nat × Nat)) (cells : List AV) (l : List (Nat × AV)) : R (List AV) :=
  lrec (fun cells => .ok cells) (fun p _ ih cells => opt (place p.1) (.no "fill: place") fun q =>
    opt p.2.cells (.no "fill: a tuple") fun c => bif2 (lenIs c q.2) (opt (splice cells q.1 c) (.no "fill") ih) (.no "fill: size")) l cells

def placesA (P : Tab) : List Field → Option (List (Nat × Nat))
  | [] => some []
  | f :: r => match sizeT P f.type with
    | some n => match placesA P r with
      | some l => some ((f.offset, n) :: l)
      | none => none
    | none => none
def placesT (P : Tab) (t : TypeId) : Option (List (Nat × Nat)) :=
  match P.und t with
  | some (.struct fs) => placesA P fs.toList
  | _ => none
def arrayT (P : Tab) (t : TypeId) : Option Nat :=
  match P.und t with
  | some (.array _ e) => sizeT P e
  | _ => none

def buildA (P : Tab) (t : TypeId) (parts : List (Nat × AV)) : R AV :=
  opt (zeroOf P t) (.no "build: zero") fun z => opt (placesT P t)
    (opt (arrayT P t) (.no "build") fun n => (fillA (fun i => some (Nat.mul i n, n)) z parts).elim (fun l => .ok (.agg l)) .no)
    (fun ps => (fillA (nth ps) z parts).elim (fun l => .ok (.agg l)) .no)

def reps {α : Type} : Nat → List α → List α
  | 0, _ => []
  | n + 1, l => l ++ reps n l

def natIdx : AV → R Nat
  | .int _ (.ofNat n) => .ok n
  | _ => .no "index"
def natIdxO (tm : T AV) : Option Operand → R (Option Nat)
  | none => .ok none
  | some o => match ev tm o with
    | .ok a => match natIdx a with
      | .ok n => .ok (some n)
      | .no s => .no s
    | .no s => .no s

/-- a slice's bounds over a known reach: low, high, top -/
def bounds (len cap : Nat) (lo hi mx : Option Nat) : R (Nat × Nat × Nat) :=
  let m := mx.getD cap
  bif Nat.ble m cap then
    match hi, mx with
    | none, some _ => .no "slice: top without high"
    | _, _ =>
      let h := hi.getD len
      bif Nat.ble h m then
        let l := lo.getD 0
        bif Nat.ble l h then .ok (l, h, m) else .no "slice: low"
      else .no "slice: high"
  else .no "slice: top"

def sliceA (P : Tab) (t : TypeId) (x : AV) (lo hi mx : Option Nat) : R AV :=
  match P.und t, x with
  | some .string, .str len num =>
    match mx with
    | some _ => .no "slice"
    | none => match bounds len len lo hi none with
      | .ok (l, h, _) => .ok (.str (Nat.sub h l) (strSlice num l h))
      | .no s => .no s
  | some (.slice e), .sl id off len cap =>
    match sizeT P e with
    | none => .no "slice"
    | some n =>
      match cap with
      | .ex c => match bounds len c lo hi mx with
        | .ok (l, h, m) => .ok (.sl id (bif Nat.beq m l then off else Nat.add off (Nat.mul l n)) (Nat.sub h l) (.ex (Nat.sub m l)))
        | .no s => .no s
      | .gr z => bif Nat.beq z n then (match bounds len len lo hi mx with
        | .ok (l, h, m) => match mx with
          | some _ => bif Nat.ble 1 len then .ok (.sl id (bif Nat.beq m l then off else Nat.add off (Nat.mul l n)) (Nat.sub h l) (.ex (Nat.sub m l))) else .no "slice: empty"
          | none => .ok (.sl id (Nat.add off (Nat.mul l n)) (Nat.sub h l) (.gr z))
        | .no s => .no s) else .no "slice: sizes"
  | some (.slice e), .nilsl => match bounds 0 0 lo hi mx, sizeT P e with
    | .ok _, some _ => .ok .nilsl
    | _, _ => .no "slice: nil"
  | some (.array k e), .ptr id off =>
    match sizeT P e with
    | none => .no "slice"
    | some n => match bounds k k lo hi mx with
      | .ok (l, h, m) => .ok (.sl id (bif Nat.beq m l then off else Nat.add off (Nat.mul l n)) (Nat.sub h l) (.ex (Nat.sub m l)))
      | .no s => .no s
  | some (.pointer a), .ptr id off =>
    match P.und a with
    | some (.array k e) => match sizeT P e with
      | none => .no "slice"
      | some n => match bounds k k lo hi mx with
        | .ok (l, h, m) => .ok (.sl id (bif Nat.beq m l then off else Nat.add off (Nat.mul l n)) (Nat.sub h l) (.ex (Nat.sub m l)))
        | .no s => .no s
    | _ => .no "slice"
  | _, _ => .no "slice: of what"

def partA (P : Tab) (t : TypeId) (cs : List AV) (off : Nat) : R AV :=
  opt (isAggT P t) (.no "part") fun b => bif2 b (opt (sizeT P t) (.no "part") fun n => opt (sub cs off n) (.no "part") fun l => .ok (.agg l)) (opt (nth cs off) (.no "part") .ok)

def elemT (P : Tab) (t : TypeId) : Option (Option Nat × Nat) :=
  match P.und t with
  | some (.slice e) => match sizeT P e with
    | some n => some (none, n)
    | none => none
  | some (.array k e) => match sizeT P e with
    | some n => some (some k, n)
    | none => none
  | _ => none
def AV.sl? (x : AV) : Option (Nat × Nat × Nat) :=
  match x with
  | .sl id off len _ => some (id, off, len)
  | _ => none
def indexAddrA (P : Tab) (t : TypeId) (x : AV) (i : Nat) : R AV :=
  opt (elemT P t) (.no "indexAddr") fun kn => opt kn.1
    (opt x.sl? (.no "index") fun s => bif2 (Nat.ble (Nat.add i 1) s.2.2) (.ok (.ptr s.1 (Nat.add s.2.1 (Nat.mul i kn.2)))) (.no "index: outside"))
    (fun k => opt x.ptr? (.no "index") fun p => bif2 (Nat.ble (Nat.add i 1) k) (.ok (.ptr p.1 (Nat.add p.2 (Nat.mul i kn.2)))) (.no "index: outside"))

def isStrT (P : Tab) (t : TypeId) : Bool :=
  match P.und t with
  | some .string => true
  | _ => false
def indexA (_ : Ctx) (P : Tab) (t : TypeId) (x : AV) (i : Nat) : R AV :=
  opt x.str? (match P.und t, x with
  | some (.array k e), .agg cs => match sizeT P e with
    | some n => bif Nat.blt i k then partA P e cs (Nat.mul i n) else .no "index: outside"
    | none => .no "index"
  | _, _ => .no "index") fun s => bif2 (isStrT P t) (bif2 (Nat.ble (Nat.add i 1) s.1) (.ok (chr (dig s.2 i))) (.no "index: outside")) (.no "index: no text")

/-- two pointers: may they be held against each other? -/
def ptrEq (h : T AO) (a x b y : Nat) : R Bool :=
  bif Nat.beq a b then .ok (Nat.beq x y) else
  match h.get a, h.get b with
  | some (.cells _ m true true none), some (.cells _ m' true true none) => match nth m x, nth m' y with
    | some _, some _ => .ok false
    | _, _ => .no "pointers"
  | _, _ => .no "pointers"

def eqFieldsA (P : Tab) (eq : TypeId → AV → AV → R Bool) : List Field → List AV → List AV → R Bool
  | [], _, _ => .ok true
  | f :: fs, xs, ys =>
    if f.name = "_" then .no "eq: a blank field" else
    match partA P f.type xs f.offset, partA P f.type ys f.offset with
    | .ok a, .ok b => match eq f.type a b with
      | .ok true => eqFieldsA P eq fs xs ys
      | r => r
    | _, _ => .no "eq: part"
def eqElemsA (P : Tab) (eq : TypeId → AV → AV → R Bool) (e : TypeId) (n : Nat) (xs ys : List AV) : Nat → Nat → R Bool
  | 0, _ => .ok true
  | k + 1, i =>
    match partA P e xs (i * n), partA P e ys (i * n) with
    | .ok a, .ok b => match eq e a b with
      | .ok true => eqElemsA P eq e n xs ys k (i + 1)
      | r => r
    | _, _ => .no "eq: part"
def eqA (Γ : Ctx) (P : Tab) (h : T AO) : Nat → TypeId → AV → AV → R Bool
  | 0, _, _, _ => .no "eq: deep"
  | d + 1, t, x, y =>
    match P.und t with
    | some .bool => match x, y with
      | .bool a, .bool b => .ok (a == b)
      | _, _ => .no "eq: bool"
    | some (.int _) => match x, y with
      | .int k a, .int k' b => if k = k' then .ok (a == b) else .no "eq: kinds"
      | .sym k a, .int k' b => if k = k' then Γ.judge .eq (a.sub (.of b)) else .no "eq: kinds"
      | .int k a, .sym k' b => if k = k' then Γ.judge .eq (Lin.sub (.of a) b) else .no "eq: kinds"
      | .sym k a, .sym k' b => if k = k' then Γ.judge .eq (a.sub b) else .no "eq: kinds"
      | _, _ => .no "eq: int"
    | some .string => match x, y with
      | .str l a, .str m b => strEql Γ l a m b
      | _, _ => .no "eq: text"
    | some (.pointer e) => match x, y with
      | .nilptr, .nilptr => .ok true
      | .nilptr, .ptr _ _ => .ok false
      | .ptr _ _, .nilptr => .ok false
      | .ptr a x, .ptr b y => match sizeT P e with
        | some (_ + 1) => ptrEq h a x b y
        | _ => .no "eq: pointers to nothing"
      | _, _ => .no "eq: pointer"
    | some (.interface _) => match x, y with
      | .niliface, .niliface => .ok true
      | .niliface, .iface _ _ => .ok false
      | .iface _ _, .niliface => .ok false
      | .iface s v, .iface u w =>
        bif Nat.beq s u then (match P.info s with
          | some i => bif i.comparable then eqA Γ P h d s v w else .no "eq: not comparable"
          | none => .no "eq")
        else .ok false
      | _, _ => .no "eq: interface"
    | some (.struct fs) => match x, y with
      | .agg xs, .agg ys => bif P.P.stoodInHeld t then .no "eq" else eqFieldsA P (eqA Γ P h d) fs.toList xs ys
      | _, _ => .no "eq: struct"
    | some (.array k e) => match x, y, sizeT P e with
      | .agg xs, .agg ys, some n => eqElemsA P (eqA Γ P h d) e n xs ys k 0
      | _, _, _ => .no "eq: array"
    | some (.slice _) => match x, y with
      | .nilsl, .nilsl => .ok true
      | .nilsl, .sl .. => .ok false
      | .sl .., .nilsl => .ok false
      | _, _ => .no "eq: slice"
    | some (.map _ _) => match x, y with
      | .nilmap, .nilmap => .ok true
      | .nilmap, .map _ => .ok false
      | .map _, .nilmap => .ok false
      | _, _ => .no "eq: map"
    | some (.func ..) => match x, y with
      | .nilfunc, .nilfunc => .ok true
      | .nilfunc, .func .. => .ok false
      | .func .., .nilfunc => .ok false
      | _, _ => .no "eq: func"
    | _ => .no "eq: of what"

def isC : Operand → Bool
  | .const _ => true
  | _ => false

def isShB (op : BinOp) : Bool := binop op false false false false false false false false true true false false false false false false false
/-- whole numbers of which nothing is known but their kind -/
def AV.kind? : AV → Option IntKind
  | .int k _ => some k
  | .sym k _ => some k
  | .unk k => some k
  | _ => none
def isUnk : AV → Bool
  | .unk _ => true
  | _ => false
def unkOp (op : BinOp) : Bool := binop op true true true false false true true true false false true false false false false false false
def unkBin (op : BinOp) (a b : AV) : R AV :=
  match a.kind?, b.kind? with
  | some k, some k' =>
    bif unkOp op then (bif Nat.beq (kindNo k) (kindNo k') then .ok (.unk k) else .no "not known: kinds")
    else bif isShB op then (match b with
      | .int _ (.ofNat _) => .ok (.unk k)
      | _ => .no "not known: a shift") else .no "not known: this operation"
  | _, _ => .no "not known"
def binSlow0 (Γ : Ctx) (P : Tab) (h : T AO) (op : BinOp) (t : TypeId) (x y : Operand) (a b : AV) : R AV :=
  match a, b with
  | .int _ _, .int _ _ => .no "bin"
  | .sym k m, .int k' n =>
    bif isSh op then symBin Γ op k m (.of n) else if k = k' then symBin Γ op k m (.of n) else .no "bin: kinds"
  | .int k m, .sym k' n => bif isSh op then .no "bin: shift" else if k = k' then symBin Γ op k (.of m) n else .no "bin: kinds"
  | .sym k m, .sym k' n => bif isSh op then .no "bin: shift" else if k = k' then symBin Γ op k m n else .no "bin: kinds"
  | .str l m, .str l' n =>
    match op with
    | .add => bif Nat.ble (Nat.add l l') 1000000 then .ok (.str (Nat.add l l') (Nat.add m (Nat.mul (Nat.pow 65536 l) n))) else .no "bin: too long a text"
    | .eql => do .ok (.bool (← strEql Γ l m l' n))
    | .neq => do .ok (.bool (!(← strEql Γ l m l' n)))
    | _ => .no "bin: text"
  | .flt k m, .flt k' n =>
    if k = k' then match op with
      | .eql => .ok (.bool (k.format.order m n == some .eq))
      | .neq => .ok (.bool (!(k.format.order m n == some .eq)))
      | _ => .no "bin: float"
    else .no "bin: float"
  | .niliface, .niliface =>
    bif isC x || isC y then (match op with
      | .eql => do .ok (.bool (← eqA Γ P h 40 t .niliface .niliface))
      | .neq => do .ok (.bool (!(← eqA Γ P h 40 t .niliface .niliface)))
      | _ => .no "bin") else .no "two nil interfaces"
  | .agg xs, .agg ys =>
    bif P.P.eqGuardType P.P.depth t then .no "bin: agg with interfaces" else
    match op with
    | .eql => do .ok (.bool (← eqA Γ P h 40 t (.agg xs) (.agg ys)))
    | .neq => do .ok (.bool (!(← eqA Γ P h 40 t (.agg xs) (.agg ys))))
    | _ => .no "bin"
  | a, b => match op with
    | .eql => do .ok (.bool (← eqA Γ P h 40 t a b))
    | .neq => do .ok (.bool (!(← eqA Γ P h 40 t a b)))
    | _ => .no "bin: of what"
def binSlow (Γ : Ctx) (P : Tab) (h : T AO) (op : BinOp) (t : TypeId) (x y : Operand) (a b : AV) : R AV :=
  bif isUnk a || isUnk b then unkBin op a b else binSlow0 Γ P h op t x y a b
def intSh (op : BinOp) : IntKind → Int → Int → R AV := binop op bNone bNone bNone bNone bNone bNone bNone bNone sShl sShr bNone bNone bNone bNone bNone bNone bNone
def binI (op : BinOp) (k : IntKind) (m : Int) (k' : IntKind) (n : Int) : R AV :=
  bif2 (isShB op) (intSh op k m n) (bif2 (Nat.beq (kindNo k) (kindNo k')) (intBin op k m n) (.no "bin: kinds"))
def binA (Γ : Ctx) (P : Tab) (h : T AO) (op : BinOp) (t : TypeId) (x y : Operand) (a b : AV) : R AV :=
  opt a.int? (binSlow Γ P h op t x y a b) fun km => opt b.int? (binSlow Γ P h op t x y a b) fun kn => binI op km.1 km.2 kn.1 kn.2

def unA (op : UnOp) (x : AV) : R AV :=
  match op, x with
  | .not, .bool b => .ok (.bool (!b))
  | .neg, .int k n => intBin .sub k 0 n
  | .xor, .int k n => intBin .xor k (bif2 (sgn k) (-1) k.max) n
  | _, _ => .no "un"

def convA (Γ : Ctx) (P : Tab) (h : T AO) (s d : TypeId) (x : AV) : R AV :=
  match P.und s, P.und d, x with
  | some _, some (.int k), .int _ n => .ok (.int k (wrapN k n))
  | some _, some (.int k), .sym _ e => if Γ.fits k e then .ok (.sym k e) else match Γ.look (.conv k e) with
    | some l => .ok (mkInt k l)
    | none => .no (msgLin "no atom conv" e)
  | some _, some (.int k), .unk _ => .ok (.unk k)
  | some .string, some .string, .str l n => .ok (.str l n)
  | some (.slice e), some .string, .sl id off len _ => match P.und e with
    | some (.int .u8) => match ldN h id off len with
      | .ok l => match numBytes Γ l with
        | .ok n => .ok (.str len n)
        | .no s => .no s
      | .no s => .no s
    | _ => .no "conv"
  | some (.slice e), some .string, .nilsl => match P.und e with
    | some (.int .u8) => .ok (.str 0 0)
    | _ => .no "conv"
  | some (.pointer _), some .unsafePointer, .nilptr => .ok .nilptr
  | some .unsafePointer, some (.pointer _), .nilptr => .ok .nilptr
  | some (.pointer t), some .unsafePointer, .ptr id off => match sizeT P t, h.get id with
    | some (_ + 1), some (.cells _ mem _ _ _) => bif Nat.blt off mem.length then .ok (.ptr id off) else .no "conv: raw"
    | _, _ => .no "conv: raw"
  | some .unsafePointer, some (.pointer u), .ptr id off => match h.get id, sizeT P u with
    | some (.cells e mem true _ _), some _ => bif liesAt P.P P.P.depth e (mem.length / P.P.cellsOf e) off u 1 then .ok (.ptr id off) else .no "conv: raw"
    | _, _ => .no "conv: raw"
  | _, _, _ => .no "conv: of what"

def isKeyT : Option TypeDesc → Bool
  | some (.int _) | some .string | some .bool => true
  | _ => false
def findA (Γ : Ctx) (P : Tab) (h : T AO) (kt : TypeId) (k : AV) : List (AV × AV × Nat) → Nat → R (Option (Nat × AV))
  | [], _ => .ok none
  | (k', v, _) :: r, i => match eqA Γ P h 2 kt k k' with
    | .ok true => .ok (some (i, v))
    | .ok false => findA Γ P h kt k r (Nat.add i 1)
    | .no s => .no s
def lookupA (Γ : Ctx) (P : Tab) (h : T AO) (t : TypeId) (x k : AV) (ok : Bool) : R AV :=
  match P.und t with
  | some (.map kt e) =>
    bif isKeyT (P.und kt) then
      let es : R (List (AV × AV × Nat)) := match x with
        | .nilmap => .ok []
        | .map id => match h.get id with
          | some (.map es _) => .ok es
          | _ => .no "lookup: no map"
        | _ => .no "lookup"
      match es with
      | .no s => .no s
      | .ok es => match findA Γ P h kt k es 0 with
        | .ok (some (_, v)) => .ok (bif ok then .tup [v, .bool true] else v)
        | .ok none => match P.info e with
          | some i => match i.zero with
            | some z => match ofV z with
              | some a => .ok (bif ok then .tup [a, .bool false] else a)
              | none => .no "lookup: zero"
            | none => .no "lookup: zero"
          | none => .no "lookup: zero"
        | .no s => .no s
    else .no "lookup: key"
  | _ => .no "lookup"

def insertA (Γ : Ctx) (P : Tab) (h : T AO) (t : TypeId) (m k v : AV) : R (T AO) :=
  match P.und t, m with
  | some (.map kt _), .map id => bif isKeyT (P.und kt) then
      match h.get id with
      | some (.map es clock) => match findA Γ P h kt k es 0 with
        | .ok none => .ok (h.set id (.map (es ++ [(k, v, clock)]) (Nat.add clock 1)))
        | _ => .no "insert: there already"
      | _ => .no "insert"
    else .no "insert: key"
  | _, _ => .no "insert"

def lenA (P : Tab) (h : T AO) (t : TypeId) (x : AV) : R AV :=
  match P.und t, x with
  | some .string, .str n _ => .ok (.int .i64 (Int.ofNat n))
  | some (.array n _), _ => .ok (.int .i64 (Int.ofNat n))
  | some (.pointer a), _ => match P.und a with
    | some (.array n _) => .ok (.int .i64 (Int.ofNat n))
    | _ => .no "len"
  | some (.slice _), .sl _ _ n _ => .ok (.int .i64 (Int.ofNat n))
  | some (.slice _), .nilsl => .ok (.int .i64 0)
  | some (.map _ _), .nilmap => .ok (.int .i64 0)
  | some (.map _ _), .map id => match h.get id with
    | some (.map es _) => .ok (.int .i64 (Int.ofNat es.length))
    | _ => .no "len"
  | _, _ => .no "len"

def minmax (Γ : Ctx) (mx : Bool) : List AV → R AV
  | [.int k a, .int _ b] => .ok (.int k (bif mx then (if a < b then b else a) else (if b < a then b else a)))
  | [.int k a, .sym _ b] => mm k (.of a) b
  | [.sym k a, .int _ b] => mm k a (.of b)
  | [.sym k a, .sym _ b] => mm k a b
  | _ => .no "min, max"
where
  mm (k : IntKind) (a b : Lin) : R AV :=
    match Γ.judge .lt (bif mx then a.sub b else b.sub a) with
    | .ok q => .ok (mkInt k (bif q then b else a))
    | .no s => .no s

def bytesT (P : Tab) (t : TypeId) : Option Nat :=
  match P.info t with
  | some i => some i.bytes
  | none => none

/-- what is appended: its cells -/
def srcCells (_ : Ctx) (h : T AO) (size : Nat) : AV → R (Nat × List AV)
  | .nilsl => .ok (0, [])
  | .sl id off len _ => match ldN h id off (Nat.mul len size) with
    | .ok l => .ok (len, l)
    | .no s => .no s
  | .str len num => bif Nat.beq size 1 then .ok (len, cellsStr len num) else .no "append: of what"
  | _ => .no "append: of what"

def appendA (Γ : Ctx) (P : Tab) (h : T AO) (nx : Nat) (t : TypeId) (s x : AV) : R VS :=
  match P.und t with
  | some (.slice e) =>
    match sizeT P e, bytesT P e, zeroOf P e with
    | some size, some bytes, some z =>
      match srcCells Γ h size x with
      | .no w => .no w
      | .ok (n, new) =>
        bif Nat.beq bytes 0 || (Nat.beq size 0 || not (lenIs z size)) then .no "append: nothing" else
        match s with
        | .nilsl =>
          bif Nat.beq n 0 then .ok ⟨.nilsl, h, nx⟩ else
          bif Nat.ble (Nat.mul (Nat.add (Nat.mul 2 n) 1000) bytes) 281474976710656 then
            .ok ⟨.sl nx 0 n (.gr size), h.set nx (.cells e new false true none), Nat.add nx 1⟩
          else .no "append: great"
        | .sl id off len cap =>
          let need := Nat.add len n
          bif Nat.ble (Nat.mul (Nat.add (Nat.mul 2 need) 1000) bytes) 281474976710656 then
          match cap with
          | .ex c =>
            bif Nat.ble need c then
              match stN h id (Nat.add off (Nat.mul len size)) new with
              | .ok h' => .ok ⟨.sl id off need (.ex c), h', nx⟩
              | .no w => .no w
            else match ldN h id off (Nat.mul len size) with
              | .ok old => .ok ⟨.sl nx 0 need (.gr size), h.set nx (.cells e (old ++ new) false true none), Nat.add nx 1⟩
              | .no w => .no w
          | .gr z =>
            bif Nat.beq z size then
            bif Nat.beq n 0 then .ok ⟨s, h, nx⟩ else
            match h.get id with
            | some (.cells e' mem false true mate) =>
              bif Nat.beq e' e then
              match sub mem off (Nat.mul len size) with
              | some old =>
                let h1 := match mate with
                  | some m => h.del m
                  | none => h
                -- is the slice's end the object's end? then the object stays as it is; else it is lost
                bif Nat.beq mem.length (Nat.add off (Nat.mul len size)) then
                  .ok ⟨.sl nx 0 need (.gr size), (h1.set id (.cells e' mem false true (some nx))).set nx (.cells e (old ++ new) false true (some id)), Nat.add nx 1⟩
                else .ok ⟨.sl nx 0 need (.gr size), (h1.del id).set nx (.cells e (old ++ new) false true none), Nat.add nx 1⟩
              | none => .no "append: outside"
              else .no "append: another type"
            | _ => .no "append: no object"
            else .no "append: sizes"
          else .no "append: great"
        | _ => .no "append"
    | _, _, _ => .no "append: type"
  | _ => .no "append"

def copyLen : AV → R Nat
  | .nilsl => .ok 0
  | .sl _ _ len _ => .ok len
  | .str len _ => .ok len
  | _ => .no "copy"
def copySrc (h : T AO) (size k : Nat) : AV → R (List AV)
  | .nilsl => .ok []
  | .sl i o _ _ => ldN h i o (Nat.mul k size)
  | .str _ num => .ok (cellsStr k num)
  | _ => .no "copy"
def minN (n m : Nat) : Nat := bif Nat.ble n m then n else m
def copyA (P : Tab) (h : T AO) (t : TypeId) (d x : AV) : R (AV × T AO) :=
  match P.und t with
  | some (.slice e) => match sizeT P e, copyLen x, d with
    | some size, .ok n, .sl id off len _ => match copySrc h size (minN n len) x with
      | .ok l => match stN h id off l with
        | .ok h' => .ok (.int .i64 (Int.ofNat (minN n len)), h')
        | .no s => .no s
      | .no s => .no s
    | _, _, _ => .no "copy"
  | _ => .no "copy"

/-- bytes that a text shares are not written any more -/
def freezeA (h : T AO) (id : Nat) : T AO :=
  match h.get id with
  | some (.cells e mem ex _ mate) =>
    let h1 := match mate with
      | some m => h.del m
      | none => h
    h1.set id (.cells e mem ex false none)
  | _ => h

end Go.Proofs.YtoklobcagaolmaaGreatDoor.SE
end

noncomputable section
namespace Go.Proofs.YtoklobcagaolmaaGreatDoor.SE

/-! ## the eliminators, at each make -/
@[simp] theorem bif2_true {β : Type} (x y : β) : bif2 true x y = x := rfl
@[simp] theorem bif2_false {β : Type} (x y : β) : bif2 false x y = y := rfl
theorem bif2_eq {β : Type} (b : Bool) (x y : β) : bif2 b x y = if b = true then x else y := by cases b <;> rfl
@[simp] theorem R.elim_ok {α β : Type} (a : α) (f : α → β) (g : String → β) : (R.ok a).elim f g = f a := rfl
@[simp] theorem R.elim_no {α β : Type} (s : String) (f : α → β) (g : String → β) : (R.no s : R α).elim f g = g s := rfl
@[simp] theorem opt_none {α β : Type} (n : β) (s : α → β) : opt none n s = n := rfl
@[simp] theorem opt_some {α β : Type} (a : α) (n : β) (s : α → β) : opt (some a) n s = s a := rfl
@[simp] theorem lcase_nil {α β : Type} (n : β) (c : α → List α → β) : lcase [] n c = n := rfl
@[simp] theorem lcase_cons {α β : Type} (a : α) (l : List α) (n : β) (c : α → List α → β) : lcase (a :: l) n c = c a l := rfl
@[simp] theorem lrec_nil {α γ δ : Type} (n : γ → δ) (c : α → List α → (γ → δ) → γ → δ) (g : γ) : lrec n c [] g = n g := rfl
@[simp] theorem lrec_cons {α γ δ : Type} (n : γ → δ) (c : α → List α → (γ → δ) → γ → δ) (a : α) (l : List α) (g : γ) : lrec n c (a :: l) g = c a l (lrec n c l) g := rfl
@[simp] theorem nrec_zero {γ δ : Type} (z : γ → δ) (s : Nat → (γ → δ) → γ → δ) (g : γ) : nrec z s 0 g = z g := rfl
@[simp] theorem nrec_succ {γ δ : Type} (z : γ → δ) (s : Nat → (γ → δ) → γ → δ) (n : Nat) (g : γ) : nrec z s (n + 1) g = s n (nrec z s n) g := rfl
@[simp] theorem pr_mk {α β γ : Type} (a : α) (b : β) (f : α → β → γ) : pr (a, b) f = f a b := rfl

theorem R.elim_eq_ok {α β : Type} {x : R α} {f : α → R β} {b : β} (h : x.elim f R.no = R.ok b) : ∃ a, x = R.ok a ∧ f a = R.ok b := by
  cases x with
  | ok a => exact ⟨a, rfl, h⟩
  | no s => cases h
theorem opt_eq_ok {α β : Type} {x : Option α} {f : α → R β} {b : β} {s : String} (h : opt x (R.no s) f = R.ok b) : ∃ a, x = some a ∧ f a = R.ok b := by
  cases x with
  | some a => exact ⟨a, rfl, h⟩
  | none => cases h
theorem opt_eq_some {α β : Type} {x : Option α} {f : α → Option β} {b : β} (h : opt x none f = some b) : ∃ a, x = some a ∧ f a = some b := by
  cases x with
  | some a => exact ⟨a, rfl, h⟩
  | none => cases h
theorem bif2_eq_ok {β : Type} {c : Bool} {x : R β} {b : β} {s : String} (h : bif2 c x (R.no s) = R.ok b) : c = true ∧ x = R.ok b := by
  cases c with
  | true => exact ⟨rfl, h⟩
  | false => cases h

/-! ## trees -/
section trees
variable {α : Type}
@[simp] theorem T.getW_nil_e : T.getW [] (T.e : T α) = none := rfl
@[simp] theorem T.getW_nil_n (l : T α) (v : Option α) (r : T α) : T.getW [] (T.n l v r) = v := rfl
@[simp] theorem T.getW_cons_e (b : Bool) (p : List Bool) : T.getW (b :: p) (T.e : T α) = none := rfl
@[simp] theorem T.getW_true_n (p : List Bool) (l : T α) (v : Option α) (r : T α) : T.getW (true :: p) (T.n l v r) = T.getW p l := rfl
@[simp] theorem T.getW_false_n (p : List Bool) (l : T α) (v : Option α) (r : T α) : T.getW (false :: p) (T.n l v r) = T.getW p r := rfl
@[simp] theorem T.getW_e : ∀ p : List Bool, T.getW p (T.e : T α) = none
  | [] => rfl
  | _ :: _ => rfl
theorem T.getW_putW : ∀ (p q : List Bool) (t : T α) (x : Option α), T.getW p (T.putW q t x) = if p = q then x else T.getW p t
  | [], [], .e, x => rfl
  | [], [], .n l v r, x => rfl
  | b :: p, [], .e, x => by cases b <;> exact T.getW_e p
  | b :: p, [], .n l v r, x => by cases b <;> rfl
  | [], b :: q, .e, x => by cases b <;> rfl
  | [], b :: q, .n l v r, x => by cases b <;> rfl
  | a :: p, b :: q, .e, x => by
    have h := T.getW_putW p q (.e : T α) x
    cases a <;> cases b
    · show T.getW p (T.putW q .e x) = _
      rw [h]; simp
    · show T.getW p .e = _
      simp
    · show T.getW p .e = _
      simp
    · show T.getW p (T.putW q .e x) = _
      rw [h]; simp
  | a :: p, b :: q, .n l v r, x => by
    cases a <;> cases b
    · show T.getW p (T.putW q r x) = _
      rw [T.getW_putW p q r x]; simp
    · show T.getW p r = _
      simp
    · show T.getW p l = _
      simp
    · show T.getW p (T.putW q l x) = _
      rw [T.getW_putW p q l x]; simp
end trees

theorem way_zero (i : Nat) : way 0 i = [] := rfl
theorem way_succ (f i : Nat) : way (f + 1) i = bif2 (Nat.beq i 0) [] (bif2 (Nat.beq (Nat.land i 1) 1) (true :: way f (Nat.shiftRight i 1)) (false :: way f (Nat.sub (Nat.shiftRight i 1) 1))) := rfl
theorem way_inj : ∀ (f g i j : Nat), i ≤ f → j ≤ g → way f i = way g j → i = j := by
  intro f
  induction f with
  | zero =>
    intro g i j hi hj h
    have hi0 : i = 0 := by omega
    subst hi0
    cases g with
    | zero => omega
    | succ g =>
      rw [way_zero, way_succ] at h
      cases hj0 : Nat.beq j 0 with
      | true => exact (Nat.eq_of_beq_eq_true hj0).symm
      | false =>
        rw [hj0] at h
        simp only [bif2_false] at h
        cases hb : Nat.beq (Nat.land j 1) 1 <;> rw [hb] at h <;> simp at h
  | succ f ih =>
    intro g i j hi hj h
    cases g with
    | zero =>
      have hj0 : j = 0 := by omega
      subst hj0
      rw [way_zero, way_succ] at h
      cases hi0 : Nat.beq i 0 with
      | true => exact Nat.eq_of_beq_eq_true hi0
      | false =>
        rw [hi0] at h
        simp only [bif2_false] at h
        cases hb : Nat.beq (Nat.land i 1) 1 <;> rw [hb] at h <;> simp at h
    | succ g =>
      rw [way_succ, way_succ] at h
      have e1 : ∀ n, Nat.shiftRight n 1 = n / 2 := fun n => by show n >>> 1 = n / 2; rw [Nat.shiftRight_eq_div_pow]
      have e2 : ∀ n, Nat.land n 1 = n % 2 := fun n => by show n &&& 1 = n % 2; rw [Nat.and_one_is_mod]
      have e3 : ∀ n, Nat.sub (Nat.shiftRight n 1) 1 = n / 2 - 1 := fun n => by rw [e1]; rfl
      simp only [e1, e2] at h
      cases hi0 : Nat.beq i 0 with
      | true =>
        have hi0' := Nat.eq_of_beq_eq_true hi0
        subst hi0'
        rw [hi0] at h
        simp only [bif2_true] at h
        cases hj0 : Nat.beq j 0 with
        | true => exact (Nat.eq_of_beq_eq_true hj0).symm
        | false =>
          rw [hj0] at h
          cases hb : Nat.beq (j % 2) 1 <;> rw [hb] at h <;> simp at h
      | false =>
        have hi1 : i ≠ 0 := fun e => by rw [e] at hi0; cases hi0
        rw [hi0] at h
        cases hj0 : Nat.beq j 0 with
        | true =>
          rw [hj0] at h
          cases hb : Nat.beq (i % 2) 1 <;> rw [hb] at h <;> simp at h
        | false =>
          have hj1 : j ≠ 0 := fun e => by rw [e] at hj0; cases hj0
          rw [hj0] at h
          simp only [bif2_false] at h
          cases ha : Nat.beq (i % 2) 1 <;> cases hb : Nat.beq (j % 2) 1 <;> rw [ha, hb] at h <;> simp only [bif2_true, bif2_false, List.cons.injEq, Bool.false_eq_true, Bool.true_eq_false, false_and, true_and] at h
          · have hh := ih g (i / 2 - 1) (j / 2 - 1) (by omega) (by omega) h
            have na : i % 2 ≠ 1 := fun e => by rw [e] at ha; cases ha
            have nb : j % 2 ≠ 1 := fun e => by rw [e] at hb; cases hb
            omega
          · have hh := ih g (i / 2) (j / 2) (by omega) (by omega) h
            have na := Nat.eq_of_beq_eq_true ha
            have nb := Nat.eq_of_beq_eq_true hb
            omega
theorem wayOf_inj {i j : Nat} (h : wayOf i = wayOf j) : i = j := way_inj i j i j (Nat.le_refl _) (Nat.le_refl _) h

theorem T.get_set {α : Type} (t : T α) (i j : Nat) (x : α) : (t.set j x).get i = if i = j then some x else t.get i := by
  unfold T.get T.set
  rw [T.getW_putW]
  by_cases h : i = j
  · subst h; simp
  · have : wayOf i ≠ wayOf j := fun e => h (wayOf_inj e)
    simp [h, this]
theorem T.get_del {α : Type} (t : T α) (i j : Nat) : (t.del j).get i = if i = j then none else t.get i := by
  unfold T.get T.del
  rw [T.getW_putW]
  by_cases h : i = j
  · subst h; simp
  · have : wayOf i ≠ wayOf j := fun e => h (wayOf_inj e)
    simp [h, this]
theorem T.getW_wayOf_putW {α : Type} (t : T α) (i j : Nat) (x : Option α) : T.getW (wayOf i) (T.putW (wayOf j) t x) = if i = j then x else T.getW (wayOf i) t := by
  rw [T.getW_putW]
  by_cases h : i = j
  · subst h; simp
  · have : wayOf i ≠ wayOf j := fun e => h (wayOf_inj e)
    simp [h, this]

/-! ## lists -/
section lists
variable {α : Type}
theorem nth_eq : ∀ (l : List α) (i : Nat), nth l i = l[i]?
  | [], _ => rfl
  | x :: xs, 0 => rfl
  | x :: xs, i + 1 => by
    show bif2 (Nat.beq (i + 1) 0) (some x) (nth xs (Nat.sub (i + 1) 1)) = _
    have : Nat.sub (i + 1) 1 = i := rfl
    rw [this, nth_eq xs i]
    simp [show Nat.beq (i + 1) 0 = false from rfl]
theorem dropN_eq : ∀ (l : List α) (n : Nat), dropN l n = l.drop n
  | [], _ => by simp [dropN]
  | x :: xs, 0 => rfl
  | x :: xs, n + 1 => by
    show bif2 (Nat.beq (n + 1) 0) (x :: xs) (dropN xs (Nat.sub (n + 1) 1)) = _
    have : Nat.sub (n + 1) 1 = n := rfl
    rw [this, dropN_eq xs n]
    simp [show Nat.beq (n + 1) 0 = false from rfl]
theorem takeN_some : ∀ (n : Nat) (l r : List α), takeN n l = some r → n ≤ l.length ∧ r = l.take n
  | 0, l, r, h => by
    have : r = [] := by simpa [takeN] using h.symm
    simp [this]
  | n + 1, [], r, h => by simp [takeN] at h
  | n + 1, x :: xs, r, h => by
    have h' : opt (takeN n xs) none (fun r => some (x :: r)) = some r := h
    obtain ⟨q, hq, e⟩ := opt_eq_some h'
    obtain ⟨h1, h2⟩ := takeN_some n xs q hq
    cases e
    simp [h1, h2]
theorem sub_some {l r : List α} {off n : Nat} (h : sub l off n = some r) : (n = 0 ∨ off + n ≤ l.length) ∧ r = (l.drop off).take n := by
  unfold sub at h
  rw [dropN_eq] at h
  obtain ⟨h1, h2⟩ := takeN_some n _ r h
  simp at h1
  exact ⟨by omega, h2⟩
theorem over_some : ∀ (vs l r : List α), over vs l = some r → vs.length ≤ l.length ∧ r = vs ++ l.drop vs.length
  | [], l, r, h => by
    have : l = r := by simpa [over] using h
    simp [this]
  | v :: vs, [], r, h => by simp [over] at h
  | v :: vs, x :: l, r, h => by
    have h' : opt (over vs l) none (fun r => some (v :: r)) = some r := h
    obtain ⟨q, hq, e⟩ := opt_eq_some h'
    obtain ⟨h1, h2⟩ := over_some vs l q hq
    cases e
    simp [h1, h2]
theorem splice_some : ∀ (o : Nat) (l vs r : List α), splice l o vs = some r → o + vs.length ≤ l.length ∧ r = l.take o ++ vs ++ l.drop (o + vs.length)
  | 0, l, vs, r, h => by
    obtain ⟨h1, h2⟩ := over_some vs l r h
    simp [h1, h2]
  | o + 1, [], vs, r, h => by simp [splice] at h
  | o + 1, x :: l, vs, r, h => by
    have h' : opt (splice l o vs) none (fun r => some (x :: r)) = some r := h
    obtain ⟨q, hq, e⟩ := opt_eq_some h'
    obtain ⟨h1, h2⟩ := splice_some o l vs q hq
    cases e
    refine ⟨by simp; omega, ?_⟩
    rw [h2]
    have : o + 1 + vs.length = (o + vs.length) + 1 := by omega
    rw [this]
    simp
theorem splice_length {o : Nat} {l vs r : List α} (h : splice l o vs = some r) : r.length = l.length := by
  obtain ⟨h1, h2⟩ := splice_some o l vs r h
  rw [h2]; simp; omega
theorem splice_get {o : Nat} {l vs r : List α} (h : splice l o vs = some r) (i : Nat) : r[i]? = if o ≤ i ∧ i < o + vs.length then vs[i - o]? else l[i]? := by
  obtain ⟨h1, h2⟩ := splice_some o l vs r h
  subst h2
  have ht : (l.take o).length = o := by simp; omega
  by_cases a : i < o
  · rw [if_neg (by omega), List.append_assoc, List.getElem?_append_left (by omega), List.getElem?_take, if_pos a]
  · by_cases b : i < o + vs.length
    · rw [if_pos ⟨by omega, b⟩, List.append_assoc, List.getElem?_append_right (by omega), ht, List.getElem?_append_left (by omega)]
    · rw [if_neg (by omega), List.append_assoc, List.getElem?_append_right (by omega), ht, List.getElem?_append_right (by omega), List.getElem?_drop]
      congr 1
      omega
theorem reps_length (_ : Nat) (_ : List α) : True := trivial
end lists
end Go.Proofs.YtoklobcagaolmaaGreatDoor.SE
end
