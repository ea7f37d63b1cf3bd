/- CHECKPOINTS: other numbers for objects, other atoms; a function's body piece by piece. No condition. -/
import Derived.Test.YtoklobcagaolmaaGreatDoorSd

noncomputable section
namespace Go.Proofs.YtoklobcagaolmaaGreatDoor.SE
variable {ρ : Val}

/-! ## a checkpoint: other numbers for the objects, other atoms; what is not named is let go -/
/-- what the changing atoms (from 16 on) stand for -/
abbrev Tau := List (Nat × Lin)
def tauOf (τ : Tau) (i : Nat) : Lin :=
  match τ.find? fun p => Nat.beq p.1 i with
  | some p => p.2
  | none => Lin.atom i
def substTs (τ : Tau) : List (Nat × Int) → Lin
  | [] => Lin.of 0
  | (i, a) :: r => (Lin.scale a (tauOf τ i)).add (substTs τ r)
def Lin.subst (τ : Tau) (e : Lin) : Lin := (Lin.of e.c).add (substTs τ e.ts)
def rhoOf (τ : Tau) (ρ : Val) : Val := fun i => (tauOf τ i).eval ρ
def tauHigh (τ : Tau) : Bool := τ.all fun p => Nat.ble 16 p.1
theorem substTs_eval (τ : Tau) : ∀ l, (substTs τ l).eval ρ = termsEval (rhoOf τ ρ) l
  | [] => by simp [substTs, Lin.eval_of, termsEval]
  | (i, a) :: r => by
    unfold substTs
    rw [Lin.eval_add, Lin.eval_scale, substTs_eval τ r]
    rfl
theorem Lin.subst_eval (τ : Tau) (e : Lin) : (e.subst τ).eval ρ = e.eval (rhoOf τ ρ) := by
  unfold Lin.subst
  rw [Lin.eval_add, Lin.eval_of, substTs_eval]
  rfl
theorem rhoOf_low {τ : Tau} (h : tauHigh τ = true) {i : Nat} (hi : i < 16) : rhoOf τ ρ i = ρ i := by
  unfold rhoOf tauOf
  cases hf : τ.find? fun p => Nat.beq p.1 i with
  | none => exact Lin.eval_atom i
  | some p =>
    have h1 := List.find?_some hf
    have h2 := List.all_eq_true.1 h p (List.mem_of_find?_eq_some hf)
    have h1 := Nat.eq_of_beq_eq_true h1
    have h2 := Nat.le_of_ble_eq_true h2
    omega
/-- are a text's signs bytes, or atoms that stay? -/
def strLow : Nat → Nat → Bool
  | 0, _ => true
  | n + 1, a => Nat.ble (Nat.add (Nat.land a 65535) 1) 272 && strLow n (Nat.shiftRight a 16)
theorem Dg.low {τ : Tau} (h : tauHigh τ = true) : ∀ {n a : Nat} {l : List UInt8}, strLow n a = true → Dg ρ n a l → Dg (rhoOf τ ρ) n a l
  | 0, a, [], _, hd => hd
  | n + 1, a, b :: l, hs, hd => by
    unfold strLow at hs
    rw [Bool.and_eq_true, land16, shr16] at hs
    refine ⟨?_, Dg.low h hs.2 hd.2⟩
    rw [hd.1]
    have hlt : a % 65536 + 1 ≤ 272 := Nat.le_of_ble_eq_true hs.1
    unfold chVal
    by_cases hc : a % 65536 < 256
    · rw [if_pos hc, if_pos hc]
    · rw [if_neg hc, if_neg hc, rhoOf_low h (by omega)]

mutual
/-- does a checkpoint's value (first) say of a run's value (second) what is so? -/
def matchA (σ : T Nat) (τ : Tau) : AV → AV → Bool
  | .bool a, .bool b => a == b
  | .int k m, .int j n => Nat.beq (kindNo k) (kindNo j) && eqI m n
  | .sym k e, .sym j f => Nat.beq (kindNo k) (kindNo j) && decide (e.subst τ = f)
  | .sym k e, .int j n => Nat.beq (kindNo k) (kindNo j) && decide (e.subst τ = Lin.of n)
  | .flt k m, .flt j n => decide (k = j) && Nat.beq m n
  | .str a b, .str c d => Nat.beq a c && (Nat.beq b d && strLow a b)
  | .nilptr, .nilptr => true
  | .ptr a b, .ptr c d => opt (σ.get a) false fun x => Nat.beq x c && Nat.beq b d
  | .nilsl, .nilsl => true
  | .sl a b c d, .sl a' b' c' d' => opt (σ.get a) false fun x => (Nat.beq x a' && Nat.beq b b') && (Nat.beq c c' && decide (d = d'))
  | .nilmap, .nilmap => true
  | .map a, .map b => opt (σ.get a) false fun x => Nat.beq x b
  | .func f a b, .func g c d => Nat.beq f g && (matchAs σ τ a c && matchAs σ τ b d)
  | .nilfunc, .nilfunc => true
  | .iface t v, .iface u w => Nat.beq t u && matchA σ τ v w
  | .niliface, .niliface => true
  | .agg a, .agg b => matchAs σ τ a b
  | .tup a, .tup b => matchAs σ τ a b
  | .unk k, b => opt b.kind? false fun j => Nat.beq (kindNo k) (kindNo j)
  | _, _ => false
def matchAs (σ : T Nat) (τ : Tau) : List AV → List AV → Bool
  | [], [] => true
  | a :: l, b :: r => matchA σ τ a b && matchAs σ τ l r
  | _, _ => false
end

section
variable {σ : T Nat} {τ : Tau} (hτ : tauHigh τ = true) {ι ι' : Io} (hι : ∀ i j l, σ.get i = some j → ι j = some l → ι' i = some l)
include hτ hι
mutual
theorem matchA_ok : ∀ (a b : AV) (v : Value), matchA σ τ a b = true → VR ρ ι b v → VR (rhoOf τ ρ) ι' a v
  | .bool a, b, v, h, hv => by
    cases b <;> first | (simp [matchA] at h; done) | skip
    simp only [matchA, beq_iff_eq] at h
    subst h; cases hv; exact .bool _
  | .int k m, b, v, h, hv => by
    cases b <;> first | (simp [matchA] at h; done) | skip
    simp only [matchA, Bool.and_eq_true] at h
    rw [SE.kindNo_inj h.1, eqI_eq' h.2]
    cases hv; exact .int _ _
  | .sym k e, b, v, h, hv => by
    cases b <;> first | (simp [matchA] at h; done) | skip
    · simp only [matchA, Bool.and_eq_true, decide_eq_true_eq] at h
      rw [SE.kindNo_inj h.1]
      cases hv with
      | int _ n =>
      have := congrArg (Lin.eval ρ) h.2
      rw [Lin.subst_eval, Lin.eval_of] at this
      rw [← this]
      exact .sym _ _
    · simp only [matchA, Bool.and_eq_true, decide_eq_true_eq] at h
      rw [SE.kindNo_inj h.1]
      cases hv with
      | sym _ f =>
      rw [← h.2, Lin.subst_eval]
      exact .sym _ _
  | .flt k m, b, v, h, hv => by
    cases b <;> first | (simp [matchA] at h; done) | skip
    simp only [matchA, Bool.and_eq_true, decide_eq_true_eq] at h
    rw [h.1, beqN h.2]
    cases hv; exact .flt _ _
  | .str x y, b, v, h, hv => by
    cases b <;> first | (simp [matchA] at h; done) | skip
    simp only [matchA, Bool.and_eq_true] at h
    cases hv with
    | str _ _ s hs =>
    have e1 := beqN h.1
    have e2 := beqN h.2.1
    subst e1 e2
    exact .str _ _ _ (Dg.low hτ h.2.2 hs)
  | .nilptr, b, v, h, hv => by
    cases b <;> first | (simp [matchA] at h; done) | skip
    cases hv; exact .nilptr
  | .ptr i o, b, v, h, hv => by
    cases b <;> first | (simp [matchA] at h; done) | skip
    simp only [matchA] at h
    cases hs : σ.get i with
    | none => rw [hs] at h; cases h
    | some x =>
      rw [hs] at h
      simp only [opt_some, Bool.and_eq_true] at h
      cases hv with
      | ptr _ _ l hl =>
      rw [beqN h.2]
      exact .ptr i _ l (hι i x l hs (by rw [beqN h.1]; exact hl))
  | .nilsl, b, v, h, hv => by
    cases b <;> first | (simp [matchA] at h; done) | skip
    cases hv; exact .nilsl
  | .sl i o n c, b, v, h, hv => by
    cases b <;> first | (simp [matchA] at h; done) | skip
    simp only [matchA] at h
    cases hs : σ.get i with
    | none => rw [hs] at h; cases h
    | some x =>
      rw [hs] at h
      simp only [opt_some, Bool.and_eq_true, decide_eq_true_eq] at h
      obtain ⟨⟨h1, h2⟩, h3, h4⟩ := h
      rw [beqN h2, beqN h3, h4]
      cases hv with
      | slx _ _ _ c l hl => exact .slx i _ _ c l (hι i x l hs (by rw [beqN h1]; exact hl))
      | slg _ _ _ z c l hl hc hb => exact .slg i _ _ z c l (hι i x l hs (by rw [beqN h1]; exact hl)) hc hb
      | slo _ _ z a => exact .slo i _ z a
  | .nilmap, b, v, h, hv => by
    cases b <;> first | (simp [matchA] at h; done) | skip
    cases hv; exact .nilmap
  | .map i, b, v, h, hv => by
    cases b <;> first | (simp [matchA] at h; done) | skip
    simp only [matchA] at h
    cases hs : σ.get i with
    | none => rw [hs] at h; cases h
    | some x =>
      rw [hs] at h
      simp only [opt_some] at h
      cases hv with
      | map _ l hl => exact .map i l (hι i x l hs (by rw [beqN h]; exact hl))
  | .func f p q, b, v, h, hv => by
    cases b <;> first | (simp [matchA] at h; done) | skip
    simp only [matchA, Bool.and_eq_true] at h
    rw [beqN h.1]
    cases hv with
    | func _ _ _ a' b' ha hb => exact .func _ _ _ _ _ (matchAs_ok p _ _ h.2.1 ha) (matchAs_ok q _ _ h.2.2 hb)
  | .nilfunc, b, v, h, hv => by
    cases b <;> first | (simp [matchA] at h; done) | skip
    cases hv; exact .nilfunc
  | .iface t x, b, v, h, hv => by
    cases b <;> first | (simp [matchA] at h; done) | skip
    simp only [matchA, Bool.and_eq_true] at h
    rw [beqN h.1]
    cases hv with
    | iface _ _ v' hv' => exact .iface _ _ _ (matchA_ok x _ _ h.2 hv')
  | .niliface, b, v, h, hv => by
    cases b <;> first | (simp [matchA] at h; done) | skip
    cases hv; exact .niliface
  | .agg l, b, v, h, hv => by
    cases b <;> first | (simp [matchA] at h; done) | skip
    simp only [matchA] at h
    cases hv with
    | agg _ cs hv' h1 => exact .agg _ _ (matchAs_ok l _ _ h hv') h1
  | .tup l, b, v, h, hv => by
    cases b <;> first | (simp [matchA] at h; done) | skip
    simp only [matchA] at h
    cases hv with
    | tup _ cs hv' => exact .tup _ _ (matchAs_ok l _ _ h hv')
  | .yld i, b, v, h, hv => by
    cases b <;> (simp [matchA] at h; done)
  | .unk k, b, v, h, hv => by
    simp only [matchA] at h
    cases hk : b.kind? with
    | none => rw [hk] at h; cases h
    | some j =>
      rw [hk] at h
      obtain ⟨n, rfl⟩ := kind?_eq hk hv
      rw [SE.kindNo_inj (show Nat.beq (kindNo k) (kindNo j) = true from h)]
      exact .unk _ _
theorem matchAs_ok : ∀ (a b : List AV) (v : List Value), matchAs σ τ a b = true → VRs ρ ι b v → VRs (rhoOf τ ρ) ι' a v
  | [], b, v, h, hv => by
    have _ := hτ
    have _ := hι
    cases b <;> first | (simp [matchAs] at h; done) | skip
    cases hv; exact .nil
  | x :: l, b, v, h, hv => by
    cases b <;> first | (simp [matchAs] at h; done) | skip
    simp only [matchAs, Bool.and_eq_true] at h
    cases hv with
    | cons _ _ y r h1 h2 => exact .cons _ _ _ _ (matchA_ok x _ _ h.1 h1) (matchAs_ok l _ _ h.2 h2)
end
end

/-! ## objects -/
def matchEs (σ : T Nat) (τ : Tau) : List (AV × AV × Nat) → List (AV × AV × Nat) → Bool
  | [], [] => true
  | a :: l, b :: r => (matchA σ τ a.1 b.1 && (matchA σ τ a.2.1 b.2.1 && Nat.beq a.2.2 b.2.2)) && matchEs σ τ l r
  | _, _ => false
/-- a checkpoint's object has no mate, or the one that it has; inv: the run's numbers that are named -/
def mateOk (σ inv : T Nat) (c r : Option Nat) : Bool :=
  match c, r with
  | none, none => true
  | none, some k => opt (inv.get k) true fun _ => false
  | some i, some k => opt (σ.get i) false fun x => Nat.beq x k
  | some _, none => false
def AO.elem : AO → TypeId
  | .cells e _ _ _ _ => e
  | _ => 0
/-- el: are the rows' types held against each other? -/
def matchO (el : Bool) (σ inv : T Nat) (τ : Tau) : AO → AO → Bool
  | .cells e m x w t, .cells e' m' x' w' t' => bif2 el (Nat.beq e e') true && ((x == x') && ((w == w') && (mateOk σ inv t t' && matchAs σ τ m m')))
  | .map es c, .map es' c' => Nat.beq c c' && matchEs σ τ es es'
  | _, _ => false

section
variable {σ inv : T Nat} {τ : Tau} (hτ : tauHigh τ = true) {ι ι' : Io} (hι : ∀ i j l, σ.get i = some j → ι j = some l → ι' i = some l)
include hτ hι
theorem matchEs_ok : ∀ (a b : List (AV × AV × Nat)) (ms : List MapEntry), matchEs σ τ a b = true → EntriesR ρ ι b ms → EntriesR (rhoOf τ ρ) ι' a ms
  | [], b, ms, h, hv => by
    cases b <;> first | (simp [matchEs] at h; done) | skip
    cases hv; exact .nil
  | x :: l, b, ms, h, hv => by
    cases b <;> first | (simp [matchEs] at h; done) | skip
    simp only [matchEs, Bool.and_eq_true] at h
    cases hv with
    | cons _ _ m ms h1 h2 => exact .cons _ _ _ _ ⟨matchA_ok hτ hι _ _ _ h.1.1 h1.1, matchA_ok hτ hι _ _ _ h.1.2.1 h1.2.1, (beqN h.1.2.2).trans h1.2.2⟩ (matchEs_ok l _ _ h.2 h2)

theorem matchAs_length : ∀ (a b : List AV), matchAs σ τ a b = true → a.length = b.length
  | [], b, h => by
    have _ := hτ
    have _ := hι
    cases b <;> first | rfl | (simp [matchAs] at h; done)
  | x :: l, b, h => by
    cases b <;> first | (simp [matchAs] at h; done) | skip
    simp only [matchAs, Bool.and_eq_true] at h
    simp [matchAs_length l _ h.2]
theorem matchAs_get : ∀ (a b : List AV) (i : Nat) (x : AV), matchAs σ τ a b = true → a[i]? = some x → ∃ y, b[i]? = some y ∧ matchA σ τ x y = true
  | [], b, i, x, h, hx => by
    have _ := hτ
    have _ := hι
    simp at hx
  | z :: l, b, i, x, h, hx => by
    cases b <;> first | (simp [matchAs] at h; done) | skip
    simp only [matchAs, Bool.and_eq_true] at h
    cases i with
    | zero => simp at hx; subst hx; exact ⟨_, rfl, h.1⟩
    | succ i => simp at hx; simpa using matchAs_get l _ i x h.2 hx
theorem matchO_ok {P : Program} {w : World} {l : Loc} {el : Bool} : ∀ (a b : AO), matchO el σ inv τ a b = true → (el = false → a.elem = b.elem) → ObjR P ρ ι w l b → ObjR P (rhoOf τ ρ) ι' w l a := by
  intro a b h hel ho
  cases a with
  | cells e m x wr t =>
    cases b <;> first | (simp [matchO] at h; done) | skip
    rename_i e' m' x' w' t'
    simp only [matchO, Bool.and_eq_true, beq_iff_eq] at h
    obtain ⟨h1, h2, h3, _, h5⟩ := h
    have : e = e' := by
      cases el with
      | true => exact beqN h1
      | false => exact hel rfl
    subst this h2 h3
    obtain ⟨cs, fz, g1, g2, g3, g4, g5, g6⟩ := (show CellsR ρ ι w l e m' x wr from ho).cells
    have hl := matchAs_length hτ hι _ _ h5
    refine ⟨cs, fz, g1, g2, by rw [hl]; exact g3, by rw [hl]; exact g4, g5, ?_⟩
    intro i y hy
    obtain ⟨z, z1, z2⟩ := matchAs_get hτ hι _ _ i y h5 hy
    obtain ⟨v, v1, v2, v3⟩ := g6 i z z1
    exact ⟨v, v1, matchA_ok hτ hι _ _ _ z2 v2, v3⟩
  | map es c =>
    cases b <;> first | (simp [matchO] at h; done) | skip
    simp only [matchO, Bool.and_eq_true] at h
    obtain ⟨h0, ms, h1, h2⟩ := ho
    rw [beqN h.1]
    exact ⟨h0, ms, h1, matchEs_ok hτ hι _ _ _ h.2 h2⟩
  | loop => cases b <;> (simp [matchO] at h; done)
  | dfs => cases b <;> (simp [matchO] at h; done)
  | siter => cases b <;> (simp [matchO] at h; done)
end

/-! ## trees, entry by entry -/
def T.allX {α : Type} (c : Nat → α → Bool) : T α → (Nat → Nat) → Bool
  | .e, _ => true
  | .n l v r, g => (match v with | none => true | some x => c (g 0) x) && (T.allX c l (fun k => g (Nat.add (Nat.mul 2 k) 1)) && T.allX c r (fun k => g (Nat.mul 2 (Nat.add k 1))))
theorem T.allX_at {α : Type} {c : Nat → α → Bool} : ∀ (p : List Bool) (t : T α) (g : Nat → Nat) (x : α), T.allX c t g = true → T.getW p t = some x → c (g (unway p)) x = true
  | [], .n l (some y) r, g, x, h, he => by
    simp only [T.allX, Bool.and_eq_true] at h
    have he : some y = some x := he
    cases he
    exact h.1
  | [], .n l none r, g, x, h, he => by cases he
  | [], .e, g, x, h, he => by cases he
  | true :: p, .n l v r, g, x, h, he => by
    simp only [T.allX, Bool.and_eq_true] at h
    exact T.allX_at p l _ x h.2.1 he
  | false :: p, .n l v r, g, x, h, he => by
    simp only [T.allX, Bool.and_eq_true] at h
    exact T.allX_at p r _ x h.2.2 he
  | b :: p, .e, g, x, h, he => by cases he
theorem T.allX_get {α : Type} {c : Nat → α → Bool} {t : T α} (h : T.allX c t id = true) {i : Nat} {x : α} (he : t.get i = some x) : c i x = true := by
  have := T.allX_at (wayOf i) t id x h he
  rw [show unway (wayOf i) = i from unway_way i i (Nat.le_refl _)] at this
  exact this

/-- a list's places as a tree -/
def treeOf {α : Type} : List α → Nat → T α → T α
  | [], _, t => t
  | x :: l, i, t => treeOf l (Nat.add i 1) (t.set i x)
/-- back -/
def backOf : List Nat → Nat → T Nat → T Nat
  | [], _, t => t
  | x :: l, i, t => backOf l (Nat.add i 1) (t.set x i)

/-- A CHECKPOINT'S TEST: base: so many numbers stay; n: so many numbers has the checkpoint -/
def turnB (base n : Nat) (σ inv : T Nat) (τ : Tau) (tmc : T AV) (hc : T AO) (tm : T AV) (h : T AO) : Bool :=
  (tauHigh τ && Nat.ble base n) &&
  (T.allX (fun i j => Nat.ble (Nat.add i 1) n && (opt (inv.get j) false (fun k => Nat.beq k i) && bif2 (Nat.ble (Nat.add i 1) base) (Nat.beq i j) true)) σ id &&
  ((List.range base).all (fun i => opt (σ.get i) false fun _ => true) &&
  (T.allX (fun t a => opt (T.getW (wayOf t) tm) false fun b => matchA σ τ a b) tmc id &&
  T.allX (fun i o => opt (σ.get i) false fun j => opt (h.get j) false fun o' => matchO (Nat.ble base i) σ inv τ o o') hc id)))

theorem allX_eq {α : Type} {c : Nat → α → Bool} {t : T α} (h : T.allX c t id = true) {i : Nat} {x : α} (he : T.getW (wayOf i) t = some x) : c i x = true := T.allX_get h he

/-- A CHECKPOINT: what stands behind a run stands under the checkpoint's numbers -/
theorem Good.turn {E : Env} {B : Base} {nt : Nat} {s : St} {a : Act} {w : World} (hg : Good E ρ B nt s a w) {n : Nat} {σ inv : T Nat} {τ : Tau} {tmc : T AV} {hc : T AO}
    (hb : turnB B.nx n σ inv τ tmc hc s.tm s.h = true) (hglob : E.P.P.globals.size ≤ B.nx) (hB : ∀ i l, B.ι i = some l → i < B.nx) (hdf : s.df = [])
    (hel : ∀ i, i < B.nx → ∀ o o', hc.get i = some o → s.h.get i = some o' → o.elem = o'.elem) :
    Good E (rhoOf τ ρ) B nt ⟨tmc, [], hc, n⟩ a w := by
  obtain ⟨ι, hHR, hAR, hDR, hN⟩ := hg.rel
  unfold turnB at hb
  simp only [Bool.and_eq_true] at hb
  obtain ⟨⟨hτ, hbn⟩, hσ, hbase, htm, hobj⟩ := hb
  have hbn : B.nx ≤ n := Nat.le_of_ble_eq_true hbn
  have s1 : ∀ {i j}, σ.get i = some j → i < n ∧ inv.get j = some i ∧ (i < B.nx → j = i) := by
    intro i j hij
    have := T.allX_get hσ hij
    simp only [Bool.and_eq_true] at this
    obtain ⟨q1, q2, q3⟩ := this
    refine ⟨Nat.le_of_ble_eq_true q1, ?_, ?_⟩
    · cases hk : inv.get j with
      | none => rw [hk] at q2; cases q2
      | some k => rw [hk] at q2; rw [beqN q2]
    · intro hi
      have : Nat.ble (Nat.add i 1) B.nx = true := Nat.ble_eq_true_of_le hi
      rw [this] at q3
      exact (beqN q3).symm
  have s2 : ∀ {i}, i < B.nx → σ.get i = some i := by
    intro i hi
    have := List.all_eq_true.1 hbase i (List.mem_range.2 hi)
    cases hk : σ.get i with
    | none => rw [hk] at this; cases this
    | some k => rw [(s1 hk).2.2 hi]
  have sinj : ∀ {i j k}, σ.get i = some k → σ.get j = some k → i = j := by
    intro i j k h1 h2
    have e1 := (s1 h1).2.1
    have e2 := (s1 h2).2.1
    rw [e1] at e2
    exact Option.some.inj e2
  let ι' : Io := fun i => (σ.get i).bind ι
  have hι : ∀ i j l, σ.get i = some j → ι j = some l → ι' i = some l := by
    intro i j l h1 h2
    show (σ.get i).bind ι = _
    rw [h1]; exact h2
  have hι2 : ∀ {i l}, ι' i = some l → ∃ j, σ.get i = some j ∧ ι j = some l := by
    intro i l h
    have h : (σ.get i).bind ι = some l := h
    cases hs : σ.get i with
    | none => rw [hs] at h; cases h
    | some j => rw [hs] at h; exact ⟨j, rfl, h⟩
  have ob : ∀ {i o}, hc.get i = some o → ∃ j o', σ.get i = some j ∧ s.h.get j = some o' ∧ matchO (Nat.ble B.nx i) σ inv τ o o' = true := by
    intro i o hio
    have := T.allX_get hobj hio
    cases hs : σ.get i with
    | none => rw [hs] at this; cases this
    | some j =>
      rw [hs] at this
      simp only [opt_some] at this
      cases hh : s.h.get j with
      | none => rw [hh] at this; cases this
      | some o' => rw [hh] at this; exact ⟨j, o', rfl, hh, this⟩
  refine ⟨ι', ⟨?_, ?_, ?_, ?_⟩, ⟨?_, hAR.size⟩, ?_, ⟨?_, hbn, ?_, hN.size, ?_, hN.same⟩⟩
  · intro i o hio
    obtain ⟨j, o', h1, h2, h3⟩ := ob hio
    obtain ⟨l, l1, l2⟩ := hHR.obj j o' h2
    refine ⟨l, hι i j l h1 l1, matchO_ok hτ hι _ _ h3 ?_ l2⟩
    intro hlt
    have hlt : i < B.nx := by
      rcases Nat.lt_or_ge i B.nx with h | h
      · exact h
      · rw [Nat.ble_eq_true_of_le h] at hlt; cases hlt
    have := (s1 h1).2.2 hlt
    subst this
    exact hel _ hlt o o' hio h2
  · intro i j oi oj li lj hij hi hj hli hlj hblk
    obtain ⟨x, ox, x1, x2, x3⟩ := ob hi
    obtain ⟨y, oy, y1, y2, y3⟩ := ob hj
    obtain ⟨x', e1, e2⟩ := hι2 hli
    rw [x1] at e1; cases e1
    obtain ⟨y', f1, f2⟩ := hι2 hlj
    rw [y1] at f1; cases f1
    have hxy : x ≠ y := fun e => hij (by subst e; exact sinj x1 y1)
    obtain ⟨m1, m2⟩ := hHR.apart x y ox oy li lj hxy x2 y2 e2 f2 hblk
    have mate : ∀ {i j x y : Nat} {o o' : AO} {el : Bool}, matchO el σ inv τ o o' = true → o'.mate? = some y → σ.get j = some y → o.mate? = some j := by
      intro i j x y o o' el hm ho' hj
      cases o with
      | cells e m xx wr t =>
        cases o' <;> first | (simp [matchO] at hm; done) | skip
        rename_i e' m' xx' w' t'
        simp only [matchO, Bool.and_eq_true] at hm
        have ho' : t' = some y := ho'
        subst ho'
        have hmm := hm.2.2.2.1
        unfold mateOk at hmm
        split at hmm
        · rename_i h1 h2; cases h2
        · rename_i k h1
          cases h1
          rw [(s1 hj).2.1] at hmm; cases hmm
        · rename_i i2 k h1
          cases h1
          cases hs : σ.get i2 with
          | none => rw [hs] at hmm; cases hmm
          | some q =>
            rw [hs] at hmm
            have := beqN hmm
            subst this
            have := sinj hs hj
            subst this
            rfl
        · cases hmm
      | map es c => cases o' <;> first | (simp [matchO] at hm; done) | cases ho'
      | loop => cases o' <;> (simp [matchO] at hm; done)
      | dfs => cases o' <;> (simp [matchO] at hm; done)
      | siter => cases o' <;> (simp [matchO] at hm; done)
    exact ⟨mate (i := i) (x := x) x3 m1 y1, mate (i := j) (x := y) y3 m2 x1⟩
  · intro i l hl
    obtain ⟨j, h1, _⟩ := hι2 hl
    exact (s1 h1).1
  · intro g hgl
    obtain ⟨sz, hs⟩ := hHR.glob g hgl
    exact ⟨sz, hι g g _ (s2 (by omega)) hs⟩
  · intro t x hx
    have hx : T.getW (wayOf t) tmc = some x := hx
    have := allX_eq htm hx
    cases hb : T.getW (wayOf t) s.tm with
    | none => rw [hb] at this; cases this
    | some b =>
      rw [hb] at this
      exact matchA_ok hτ hι _ _ _ this (hAR.tmps t b hb)
  · rw [hdf] at hDR
    generalize a.defers = ds at hDR
    cases hDR
    exact .nil
  · intro i l hl
    exact hι i i l (s2 (hB i l hl)) (hN.le i l hl)
  · intro i l hl hn
    rcases Nat.lt_or_ge i B.nx with h | h
    · obtain ⟨j, e1, e2⟩ := hι2 hl
      rw [s2 h] at e1; cases e1
      exact hN.new i l e2 hn
    · exact h
  · intro b hb hf
    obtain ⟨f1, f2⟩ := hN.frame b hb hf
    refine ⟨f1, ?_⟩
    intro i o l hio hl
    obtain ⟨j, o', h1, h2, h3⟩ := ob hio
    obtain ⟨j', e1, e2⟩ := hι2 hl
    rw [h1] at e1; cases e1
    exact f2 j o' l h2 e2
end Go.Proofs.YtoklobcagaolmaaGreatDoor.SE
end

noncomputable section
namespace Go.Proofs.YtoklobcagaolmaaGreatDoor.SE
variable {ρ : Val}

/-! ## a function's body, piece by piece -/
/-- the law's surroundings -/
def envL (Γ : Ctx) (T : Tab) (exts : List (FuncId × Ext)) : Env := ⟨Γ, T, callA 100 Γ T exts 0, callA 100 Γ T exts 1, callA 100 Γ T exts 2, 100000, false⟩
def bodyOf (fn : Func) : Code := opt fn.body .skip id
/-- a run that ends in an exit, and what a checkpoint's test says of it -/
def segB (o : Out) (want : X → Bool) (base n : Nat) (σ : List Nat) (τ : Tau) (tmc : T AV) (hc : T AO) : Bool :=
  o.elim (fun x s => want x && (noDefs s.df && turnB base n (treeOf σ 0 .e) (backOf σ 0 .e) τ tmc hc s.tm s.h)) (fun _ => false)
/-- the same, with the types of two rows -/
def elemAt (h : T AO) (i : Nat) : TypeId := opt (h.get i) 0 AO.elem
def segT (o : Out) (want : X → Bool) (base n : Nat) (σ : List Nat) (τ : Tau) (tmc : T AV) (hc : T AO) : Bool × TypeId × TypeId :=
  o.elim (fun x s => (want x && (noDefs s.df && turnB base n (treeOf σ 0 .e) (backOf σ 0 .e) τ tmc hc s.tm s.h), elemAt s.h 0, elemAt s.h 1)) (fun _ => (false, 0, 0))
def isNorm : X → Bool
  | .norm => true
  | _ => false
def isExit (i : Nat) : X → Bool
  | .exit j => Nat.beq j i
  | _ => false

section
variable {T : Tab} {exts : List (FuncId × Ext)} {Γ : Ctx}
theorem envL_ok (hP : Progs Γ ρ T exts) : EnvOk (envL Γ T exts) ρ :=
  ⟨hP.tab, hP.ctx, (callA_ok hP 100).1, (callA_ok hP 100).2.1, (callA_ok hP 100).2.2, fun _ hg vs w => enter_of hP hg vs w, hP.mixed⟩
theorem Good.env {E E' : Env} {B : Base} {nt : Nat} {s : St} {a : Act} {w : World} (h : Good E ρ B nt s a w) (hE : E'.P = E.P) : Good E' ρ B nt s a w := by
  obtain ⟨ι, h1, h2⟩ := h.rel
  exact ⟨ι, by rw [hE]; exact h1, h2⟩
/-- two rows' types -/
def typ (t0 t1 : TypeId) (i : Nat) : TypeId := bif2 (Nat.beq i 0) t0 t1
theorem segT_some {o : Out} {want : X → Bool} {base n : Nat} {σ : List Nat} {τ : Tau} {tmc : SE.T AV} {hc : SE.T AO} {t0 t1 : TypeId} (h : segT o want base n σ τ tmc hc = (true, t0, t1)) :
    ∃ x s, o = .out x s ∧ want x = true ∧ s.df = [] ∧ turnB base n (treeOf σ 0 .e) (backOf σ 0 .e) τ tmc hc s.tm s.h = true ∧ elemAt s.h 0 = t0 ∧ elemAt s.h 1 = t1 := by
  unfold segT at h
  cases o with
  | bad t => cases h
  | out x s =>
    have h : (want x && (noDefs s.df && turnB base n (treeOf σ 0 .e) (backOf σ 0 .e) τ tmc hc s.tm s.h), elemAt s.h 0, elemAt s.h 1) = (true, t0, t1) := h
    injection h with h ht
    injection ht with ht0 ht1
    rw [Bool.and_eq_true, Bool.and_eq_true] at h
    refine ⟨x, s, rfl, h.1, ?_, h.2.2, ht0, ht1⟩
    have := h.2.1
    generalize s.df = d at this
    cases d with
    | nil => rfl
    | cons _ _ => cases this

/-- what stays all along the law -/
structure BaseOk (T : Tab) (B : Base) : Prop where
  glob : T.P.globals.size ≤ B.nx
  low : ∀ i l, B.ι i = some l → i < B.nx
/-- a state of the law -/
abbrev Here' (T : Tab) (ρ : Val) (B : Base) (nt : Nat) (s : St) (a : Act) (w : World) : Prop := Good (envL ⟨[], [], []⟩ T []) ρ B nt s a w

/-- a checkpoint's heap: below the base two rows alone, of these types -/
def Low (_ : Tab) (B : Base) (t0 t1 : TypeId) (hc : SE.T AO) : Prop :=
  ∀ i, i < B.nx → ∀ o, hc.get i = some o → (i = 0 ∧ o.elem = t0) ∨ (i = 1 ∧ o.elem = t1)
theorem low_el {B : Base} {t0 t1 : TypeId} {hc h : SE.T AO} (hl : Low T B t0 t1 hc) (h0 : elemAt h 0 = t0) (h1 : elemAt h 1 = t1) :
    ∀ i, i < B.nx → ∀ o o', hc.get i = some o → h.get i = some o' → o.elem = o'.elem := by
  intro i hi o o' ho ho'
  rcases hl i hi o ho with ⟨rfl, e⟩ | ⟨rfl, e⟩
  · rw [e, ← h0]; unfold elemAt; rw [ho']; rfl
  · rw [e, ← h1]; unfold elemAt; rw [ho']; rfl

/-- A PIECE OF THE LAW, in a row, to a checkpoint -/
theorem seg {B : Base} (hB : BaseOk T B) (hP : Progs Γ ρ T exts) {m nt n nC base : Nat} {c : Code} {S C : St} {σ : List Nat} {τ : Tau} {a : Act} {w : World} {Q : Exit → Act → World → Prop} {t0 t1 : TypeId}
    (hrun : segT (exs (items n c) (envL Γ T exts) S) isNorm base nC σ τ C.tm C.h = (true, t0, t1)) (hbase : B.nx = base) (hlow : Low T B t0 t1 C.h) (hs : isSeq n c = true) (hc : CodeOk T.P nt c) (hn : C.nx = nC) (hd : C.df = []) (hg : Here' T ρ B nt S a w)
    (hk : ∀ a' w', Here' T (rhoOf τ ρ) B nt C a' w' → (rest n c).wpIn (W none) m T.P Q a' w') : c.wpIn (W none) m T.P Q a w := by
  subst hbase
  obtain ⟨x, s, h1, h2, h3, h4, h5, h6⟩ := segT_some hrun
  cases x with
  | ret => cases h2
  | exit i => cases h2
  | norm =>
    refine exs_ok (envL_ok hP) rfl n c S s a w hs hc h1 (hg.env rfl) ?_
    intro a' w' hg'
    have := Good.turn (E := envL Γ T exts) hg' h4 hB.glob hB.low h3 (low_el hlow h5 h6)
    refine hk a' w' ?_
    obtain ⟨tm, df, hh, nx⟩ := C
    have hn : nx = nC := hn
    have hd : df = [] := hd
    subst hn hd
    exact this.env rfl
/-- one code of the law (a loop's round), to a checkpoint -/
theorem seg1 {B : Base} (hB : BaseOk T B) (hP : Progs Γ ρ T exts) {m nt nC base : Nat} {c : Code} {S C : St} {σ : List Nat} {τ : Tau} {a : Act} {w : World} {want : X → Bool} {t0 t1 : TypeId}
    (hrun : segT (ex c (envL Γ T exts) S) want base nC σ τ C.tm C.h = (true, t0, t1)) (hbase : B.nx = base) (hlow : Low T B t0 t1 C.h) (hc : CodeOk T.P nt c) (hn : C.nx = nC) (hd : C.df = []) (hg : Here' T ρ B nt S a w) :
    c.wpIn (W none) m T.P (fun e a w => (∃ x, want x = true ∧ match x with | .norm => e = .normal | .ret => e = .ret | .exit i => e = .exit i) ∧ Here' T (rhoOf τ ρ) B nt C a w) a w := by
  subst hbase
  obtain ⟨x, s, h1, h2, h3, h4, h5, h6⟩ := segT_some hrun
  have ih := ex_ok (envL_ok hP) (ro := none) (m := m) (fun _ => rfl) c S a w hc (by rw [h1]; trivial) (hg.env rfl)
  rw [h1] at ih
  refine wpIn_mono ih ?_
  intro e a1 w1 hp
  have fin : ∀ {a w}, Good (envL Γ T exts) ρ B nt s a w → Here' T (rhoOf τ ρ) B nt C a w := by
    intro a w hg'
    have := Good.turn (E := envL Γ T exts) hg' h4 hB.glob hB.low h3 (low_el hlow h5 h6)
    obtain ⟨tm, df, hh, nx⟩ := C
    have hn : nx = nC := hn
    have hd : df = [] := hd
    subst hn hd
    exact this.env rfl
  cases x with
  | norm => exact ⟨⟨.norm, h2, hp.1⟩, fin hp.2⟩
  | ret => exact ⟨⟨.ret, h2, hp.1⟩, fin hp.2⟩
  | exit i => exact ⟨⟨.exit i, h2, hp.1⟩, fin hp.2⟩
end
end Go.Proofs.YtoklobcagaolmaaGreatDoor.SE
end
